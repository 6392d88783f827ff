import PyProof.Rows.All
import Wide.All
import OpenK.AllK
import Wide.FinOn
import HandS.ForMost
import HandS.IsInst
import HandS.TupAny
import HandS.WrittenGet
import HandS.Conv
import KE.DataMinMax
import KE.SortData
import HandS.ExcInit
import HandS.ExcOwn
import HandS.ExcIs
import HandS.WordsExc
import HandS.TryOnly
import HandS.HotCalls
import HandS.ExcField
import KE.KExcIs
import HandS.Replace
import HandS.ReplaceLit
import PyProof.StrLawsReplace
import HandS.Text
import PyProof.ListStr
import PyProof.JoinWalk
import PyProof.CollectStr
import PyProof.CollectIter
import PySem.Challenge.RW_jumpsay_k11_texts_refused
set_option Elab.async false
set_option linter.all false
set_option maxRecDepth 100000
set_option maxHeartbeats 4000000
/-! Pure data over the abstract heap, and weakest preconditions over data. -/
namespace J
open PySem L2

/-! ### data at a value -/
mutual
inductive DD (H : Hp) : V → PyData → Prop
  | non : DD H .non .none
  | bl (b : Bool) : DD H (.bl b) (.bool b)
  | int (i : Int) : DD H (.int i) (.int i)
  | str (x : Str) : DD H (.str x) (.str x)
  | lst {a : Addr} {xs : List V} {ds : List PyData} : H a = some (.lst xs) → DDs H xs ds → DD H (.ref a) (.list ds)
  | tup {a : Addr} {xs : List V} {ds : List PyData} : H a = some (.tup xs) → DDs H xs ds → DD H (.ref a) (.tuple ds)
inductive DDs (H : Hp) : List V → List PyData → Prop
  | nil : DDs H [] []
  | cons {v : V} {vs : List V} {d : PyData} {ds : List PyData} : DD H v d → DDs H vs ds → DDs H (v :: vs) (d :: ds)
end
mutual
theorem DD.mono {H H' : Hp} (e : Same H H') : ∀ (d : PyData) (v : V), DD H v d → DD H' v d
  | .none, _, h => by cases h; exact .non
  | .bool b, _, h => by cases h; exact .bl b
  | .int i, _, h => by cases h; exact .int i
  | .str x, _, h => by cases h; exact .str x
  | .list ds, _, h => by
    cases h with
    | lst ha hs => exact .lst (e _ _ ha) (DDs.mono e ds _ hs)
  | .tuple ds, _, h => by
    cases h with
    | tup ha hs => exact .tup (e _ _ ha) (DDs.mono e ds _ hs)
  | .dict _, _, h => by cases h
theorem DDs.mono {H H' : Hp} (e : Same H H') : ∀ (ds : List PyData) (vs : List V), DDs H vs ds → DDs H' vs ds
  | [], _, h => by cases h; exact .nil
  | d :: ds, _, h => by
    cases h with
    | cons h1 h2 => exact .cons (DD.mono e d _ h1) (DDs.mono e ds _ h2)
end
mutual
theorem DD.dp {K : PySem.W.Frag} {H : Hp} : ∀ (d : PyData) (v : V), DD H v d → Dp K H v d
  | .none, _, h => by cases h; exact .non
  | .bool b, _, h => by cases h; exact .bl b
  | .int i, _, h => by cases h; exact .int i
  | .str x, _, h => by cases h; exact .str x
  | .list ds, _, h => by
    cases h with
    | lst ha hs => exact .lst (SqL.of ha) (DDs.dp ds _ hs)
  | .tuple ds, _, h => by
    cases h with
    | tup ha hs => exact .tup (SqT.of ha) (DDs.dp ds _ hs)
  | .dict _, _, h => by cases h
theorem DDs.dp {K : PySem.W.Frag} {H : Hp} : ∀ (ds : List PyData) (vs : List V), DDs H vs ds → DpAll K H vs ds
  | [], _, h => by cases h; exact .nil
  | d :: ds, _, h => by
    cases h with
    | cons h1 h2 => exact .cons (DD.dp d _ h1) (DDs.dp ds _ h2)
end
theorem DDs.len {H : Hp} : ∀ {vs : List V} {ds : List PyData}, DDs H vs ds → vs.length = ds.length
  | [], _, h => by cases h; rfl
  | v :: vs, _, h => by
    cases h with
    | cons _ h2 => simp only [List.length_cons, DDs.len h2]
theorem DDs.get {H : Hp} : ∀ {vs : List V} {ds : List PyData} {i : Nat} {d : PyData}, DDs H vs ds → ds[i]? = some d → ∃ v, vs[i]? = some v ∧ DD H v d
  | [], _, _, _, h, e => by cases h; cases e
  | v :: vs, _, 0, _, h, e => by
    cases h with
    | cons h1 _ => cases e; exact ⟨_, rfl, h1⟩
  | v :: vs, _, i + 1, _, h, e => by
    cases h with
    | cons _ h2 =>
      obtain ⟨u, h3, h4⟩ := DDs.get (i := i) h2 e
      exact ⟨u, h3, h4⟩
theorem DDs.get' {H : Hp} : ∀ {vs : List V} {ds : List PyData} {i : Nat} {v : V}, DDs H vs ds → vs[i]? = some v → ∃ d, ds[i]? = some d ∧ DD H v d
  | [], _, _, _, h, e => by cases e
  | v :: vs, _, 0, _, h, e => by
    cases h with
    | cons h1 _ => cases e; exact ⟨_, rfl, h1⟩
  | v :: vs, _, i + 1, _, h, e => by
    cases h with
    | cons _ h2 =>
      obtain ⟨u, h3, h4⟩ := DDs.get' (i := i) h2 e
      exact ⟨u, h3, h4⟩
theorem DDs.app {H : Hp} : ∀ {vs us : List V} {ds es : List PyData}, DDs H vs ds → DDs H us es → DDs H (vs ++ us) (ds ++ es)
  | [], _, _, _, h, k => by cases h; exact k
  | v :: vs, _, _, _, h, k => by
    cases h with
    | cons h1 h2 => exact .cons h1 (DDs.app h2 k)
theorem DDs.one {H : Hp} {v : V} {d : PyData} (h : DD H v d) : DDs H [v] [d] := .cons h .nil
theorem DDs.take {H : Hp} : ∀ {vs : List V} {ds : List PyData} (n : Nat), DDs H vs ds → DDs H (vs.take n) (ds.take n)
  | _, _, 0, _ => by simp only [List.take_zero]; exact .nil
  | [], _, n + 1, h => by cases h; simp only [List.take_nil]; exact .nil
  | v :: vs, _, n + 1, h => by
    cases h with
    | cons h1 h2 => exact .cons h1 (DDs.take n h2)
theorem DDs.drop {H : Hp} : ∀ {vs : List V} {ds : List PyData} (n : Nat), DDs H vs ds → DDs H (vs.drop n) (ds.drop n)
  | _, _, 0, h => h
  | [], _, n + 1, h => by cases h; simp only [List.drop_nil]; exact .nil
  | v :: vs, _, n + 1, h => by
    cases h with
    | cons h1 h2 => exact DDs.drop n h2
theorem DDs.at_ {H : Hp} {vs : List V} {ds : List PyData} {i : Int} {d : PyData} (h : DDs H vs ds) (e : atI ds i = some d) : ∃ v, atI vs i = some v ∧ DD H v d := by
  unfold atI at e ⊢
  rw [h.len]
  cases q : ixN ds.length i with
  | none => rw [q] at e; cases e
  | some j =>
    rw [q] at e
    exact h.get e
theorem DDs.ints {H : Hp} : ∀ (ns : List Int), DDs H (ns.map V.int) (ns.map PyData.int)
  | [] => .nil
  | n :: r => .cons (.int n) (DDs.ints r)
theorem DDs.of_ints {H : Hp} : ∀ {ns : List Int} {vs : List V}, DDs H vs (ns.map PyData.int) → vs = ns.map V.int
  | [], _, h => by cases h; rfl
  | n :: r, _, h => by
    cases h with
    | cons h1 h2 => cases h1; rw [DDs.of_ints h2]; rfl
theorem DDs.of_bools {H : Hp} : ∀ {ns : List Bool} {vs : List V}, DDs H vs (ns.map PyData.bool) → vs = ns.map V.bl
  | [], _, h => by cases h; rfl
  | n :: r, _, h => by
    cases h with
    | cons h1 h2 => cases h1; rw [DDs.of_bools h2]; rfl

/-! ### a heap without some addresses -/
open Classical in
noncomputable def cut (B : Addr → Prop) (H : Hp) : Hp := fun a => if B a then none else H a
theorem cut_get {B : Addr → Prop} {H : Hp} {a : Addr} {o : HO} (h : cut B H a = some o) : H a = some o ∧ ¬ B a := by
  unfold cut at h
  by_cases b : B a
  · rw [if_pos b] at h; cases h
  · rw [if_neg b] at h; exact ⟨h, b⟩
theorem cut_of {B : Addr → Prop} {H : Hp} {a : Addr} {o : HO} (h : H a = some o) (b : ¬ B a) : cut B H a = some o := by
  unfold cut
  rw [if_neg b]
  exact h
theorem cut_same {B : Addr → Prop} {H : Hp} : Same (cut B H) H := fun _ _ h => (cut_get h).1
theorem cut_mono {B B' : Addr → Prop} {H : Hp} (h : ∀ a, B' a → B a) : Same (cut B H) (cut B' H) := fun _ _ e => cut_of (cut_get e).1 fun z => (cut_get e).2 (h _ z)
/-- all that was tracked is as it was, but at F -/
def Fr (F : Addr → Prop) (H H' : Hp) : Prop := ∀ a o, H a = some o → ¬ F a → H' a = some o
theorem Fr.refl {F : Addr → Prop} {H : Hp} : Fr F H H := fun _ _ h _ => h
theorem Fr.trans {F : Addr → Prop} {H H1 H2 : Hp} (a : Fr F H H1) (b : Fr F H1 H2) : Fr F H H2 := fun c o h n => b c o (a c o h n) n
theorem Fr.of {F : Addr → Prop} {H H' : Hp} (e : Same H H') : Fr F H H' := fun a o h _ => e a o h
theorem Fr.mono {F F' : Addr → Prop} {H H' : Hp} (e : Fr F H H') (h : ∀ a, F a → F' a) : Fr F' H H' := fun a o q n => e a o q fun z => n (h a z)
theorem Fr.same {H H' : Hp} (e : Fr (fun _ => False) H H') : Same H H' := fun a o h => e a o h fun z => z
theorem Fr.cut {F B : Addr → Prop} {H H' : Hp} (e : Fr F H H') (h : ∀ a, F a → B a) : Same (cut B H) (cut B H') := fun a o q => by
  obtain ⟨h1, h2⟩ := cut_get q
  exact cut_of (e a o h1 fun z => h2 (h a z)) h2
theorem same_new {H : Hp} {p : Addr} {o : HO} (h : H p = none) : Same H (upd H p o) := fun b u q => by rw [upd_ne (ne_of_none q h)]; exact q

/-! ### what is changed besides: a store -/
structure Sto where
  S : Type
  F : Addr → Prop
  At : S → Hp → Prop
  loc : ∀ s H H', (∀ a o, F a → H a = some o → H' a = some o) → At s H → At s H'
  dom : ∀ s H a, At s H → F a → H a ≠ none
  E : XK
  Z : Addr → Option Int → S → Prop
/-- nothing -/
@[reducible] def uS : Sto := ⟨Unit, fun _ => False, fun _ _ => True, fun _ _ _ _ h => h, fun _ _ _ _ h => h.elim, fun _ _ _ => False, fun _ _ _ => False⟩

/-- an exception as it is told: its dict, with a place or without one -/
def ExD (F : Addr → Prop) (k : Option Int) (dd : Option Addr) (H0 H : Hp) : Prop := match k with
  | none => dd = none
  | some k => ∃ d, dd = some d ∧ H0 d = none ∧ ¬ F d ∧ H d = some (.xd [("place", .int k)])
theorem ExD.up {F : Addr → Prop} {k : Option Int} {dd : Option Addr} {H0 H1 H : Hp} (e : Fr F H0 H1) (x : ExD F k dd H1 H) : ExD F k dd H0 H := by
  cases k with
  | none => exact x
  | some k =>
    obtain ⟨d, h1, h2, h3, h4⟩ := x
    refine ⟨d, h1, ?_, h3, h4⟩
    cases q : H0 d with
    | none => rfl
    | some o => rw [e d o q h3] at h2; cases h2
theorem ExD.mono {F F' : Addr → Prop} {k : Option Int} {dd : Option Addr} {H0 H : Hp} (h : ∀ a, F' a → F a) (x : ExD F k dd H0 H) : ExD F' k dd H0 H := by
  cases k with
  | none => exact x
  | some k =>
    obtain ⟨d, h1, h2, h3, h4⟩ := x
    exact ⟨d, h1, h2, fun z => h3 (h d z), h4⟩
/-- what a slot is known to hold -/
inductive W where
  | d (x : PyData)
  | v (x : V)
  | own (xs : List PyData)
abbrev DEnv := List (Option W)
def View (T : Sto) (H0 : Hp) (B : Addr → Prop) (H : Hp) (u : Option V) : W → Prop
  | .d x => ∃ v, u = some v ∧ DD (cut B H) v x
  | .v x => u = some x
  | .own xs => ∃ p vs, u = some (.ref p) ∧ B p ∧ ¬ T.F p ∧ H0 p = none ∧ H p = some (.lst vs) ∧ DDs (cut B H) vs xs
structure Cxt (T : Sto) (A0 : Addr → Prop) (H0 : Hp) (B : Addr → Prop) (σ : St) (H : Hp) (s : T.S) (ρ : DEnv) : Prop where
  fb : ∀ a, T.F a → B a
  dm : ∀ a, B a → H a ≠ none
  at_ : T.At s H
  ln : σ.length = ρ.length
  sl : ∀ (i : Nat) (w : W), ρ[i]? = some (some w) → View T H0 B H (σ[i]?.join) w
  fr : Fr T.F H0 H
  ab : ∀ a, A0 a → B a
  d0 : ∀ a, A0 a → H0 a ≠ none
  ba : ∀ a, B a → A0 a ∨ T.F a ∨ H0 a = none
  ow : ∀ (i j : Nat) (xs ys : List PyData) (p : Addr), ρ[i]? = some (some (.own xs)) → ρ[j]? = some (some (.own ys)) → i ≠ j → σ[i]? = some (some (.ref p)) → σ[j]? ≠ some (some (.ref p))
  ex : ∀ (C : Addr) (k : Option Int) (s' : T.S) (H' : Hp) (dd : Option Addr), T.Z C k s' → Fr T.F H0 H' → T.At s' H' → ExD T.F k dd H0 H' → T.E (.ref C) dd H'
section
variable {T : Sto} {A0 : Addr → Prop} {H0 : Hp} {B : Addr → Prop} {σ : St} {H H' : Hp} {s s' : T.S} {ρ : DEnv}
theorem View.step {u : Option V} {w : W} (fb : ∀ a, T.F a → B a) (e : Fr T.F H H') (h : View T H0 B H u w) : View T H0 B H' u w := by
  cases w with
  | d x => obtain ⟨v, h1, h2⟩ := h; exact ⟨v, h1, DD.mono (e.cut fb) _ _ h2⟩
  | v x => exact h
  | own xs => obtain ⟨p, vs, h1, h2, h3, h5, h6, h7⟩ := h; exact ⟨p, vs, h1, h2, h3, h5, e _ _ h6 h3, DDs.mono (e.cut fb) _ _ h7⟩
theorem Cxt.step (c : Cxt T A0 H0 B σ H s ρ) (e : Fr T.F H H') (h : T.At s' H') : Cxt T A0 H0 B σ H' s' ρ where
  fb := c.fb
  dm := fun a b => by
    by_cases f : T.F a
    · exact T.dom _ _ _ h f
    · cases q : H a with
      | none => exact absurd q (c.dm a b)
      | some o => rw [e a o q f]; exact fun z => nomatch z
  at_ := h
  ln := c.ln
  sl := fun i w q => (c.sl i w q).step c.fb e
  fr := c.fr.trans e
  ab := c.ab
  d0 := c.d0
  ba := c.ba
  ow := c.ow
  ex := c.ex
theorem Cxt.grow (c : Cxt T A0 H0 B σ H s ρ) (e : Same H H') : Cxt T A0 H0 B σ H' s ρ := c.step (Fr.of e) (T.loc s H H' (fun a o _ h => e a o h) c.at_)
end

/-! ### weakest preconditions over data -/
def WE (T : Sto) (te : TE) (s : T.S) (ρ : DEnv) (Φ : PyData → T.S → Prop) : Prop :=
  ∀ (A0 : Addr → Prop) (H0 : Hp) (B : Addr → Prop) (σ : St) (H : Hp), Cxt T A0 H0 B σ H s ρ → ∀ Q : VK, (∀ v H' x s', Φ x s' → Fr T.F H H' → T.At s' H' → DD (cut B H') v x → Q v H') → te σ H Q
def WT (T : Sto) (tt : TT) (s : T.S) (ρ : DEnv) (Φ : Bool → T.S → Prop) : Prop :=
  ∀ (A0 : Addr → Prop) (H0 : Hp) (B : Addr → Prop) (σ : St) (H : Hp), Cxt T A0 H0 B σ H s ρ → ∀ Q : Bool → Hp → Prop, (∀ b H' s', Φ b s' → Fr T.F H H' → T.At s' H' → Q b H') → tt σ H Q
def WA (T : Sto) (ta : TA) (s : T.S) (ρ : DEnv) (Φ : List PyData → T.S → Prop) : Prop :=
  ∀ (A0 : Addr → Prop) (H0 : Hp) (B : Addr → Prop) (σ : St) (H : Hp), Cxt T A0 H0 B σ H s ρ → ∀ Q : List V → Hp → Prop, (∀ vs H' xs s', Φ xs s' → Fr T.F H H' → T.At s' H' → DDs (cut B H') vs xs → Q vs H') → ta σ H Q
def WS (T : Sto) (ts : TS) (s : T.S) (ρ : DEnv) (R : PyData → T.S → Prop) (N : DEnv → T.S → Prop) : Prop :=
  ∀ (A0 : Addr → Prop) (H0 : Hp) (B : Addr → Prop) (σ : St) (H : Hp), Cxt T A0 H0 B σ H s ρ → ∀ D : Ends, (∀ v H' x s', R x s' → Fr T.F H0 H' → T.At s' H' → DD (cut A0 H') v x → D.rt v H') →
    (∀ B' σ' H' s' ρ', N ρ' s' → Cxt T A0 H0 B' σ' H' s' ρ' → D.nx σ' H') → ts D σ H
/-- a two-place operation, a one-place one, a call, a slice, over data -/
def RD (r : R2) (x y : PyData) (Φ : PyData → Prop) : Prop :=
  ∀ (B : Addr → Prop) (H : Hp) (v w : V) (Q : VK), (∀ a, B a → H a ≠ none) → DD (cut B H) v x → DD (cut B H) w y → (∀ u H' z, Φ z → Same H H' → DD (cut B H') u z → Q u H') → r v w H Q
def R1 (r : V → Hp → VK → Prop) (x : PyData) (Φ : PyData → Prop) : Prop :=
  ∀ (B : Addr → Prop) (H : Hp) (v : V) (Q : VK), (∀ a, B a → H a ≠ none) → DD (cut B H) v x → (∀ u H' z, Φ z → Same H H' → DD (cut B H') u z → Q u H') → r v H Q
def RC (r : List V → Hp → VK → Prop) (xs : List PyData) (Φ : PyData → Prop) : Prop :=
  ∀ (B : Addr → Prop) (H : Hp) (vs : List V) (Q : VK), (∀ a, B a → H a ≠ none) → DDs (cut B H) vs xs → (∀ u H' z, Φ z → Same H H' → DD (cut B H') u z → Q u H') → r vs H Q
def RS (r : V → Option Int → Option Int → Hp → VK → Prop) (x : PyData) (l h : Option Int) (Φ : PyData → Prop) : Prop :=
  ∀ (B : Addr → Prop) (H : Hp) (v : V) (Q : VK), (∀ a, B a → H a ≠ none) → DD (cut B H) v x → (∀ u H' z, Φ z → Same H H' → DD (cut B H') u z → Q u H') → r v l h H Q

section
variable {T : Sto} {s : T.S} {ρ : DEnv} {Φ : PyData → T.S → Prop} {ta tb te : TE} {t u : TT}
theorem WE.mono {Ψ : PyData → T.S → Prop} (h : WE T te s ρ Φ) (k : ∀ x s, Φ x s → Ψ x s) : WE T te s ρ Ψ := fun A0 H0 B σ H c Q q => h A0 H0 B σ H c Q fun v H' x s' f => q v H' x s' (k x s' f)
theorem wp_var {i : Nat} {x : PyData} (h : ρ[i]? = some (some (.d x))) (q : Φ x s) : WE T (tVar i) s ρ Φ := fun A0 H0 B σ H c Q k => by
  obtain ⟨v, h1, h2⟩ := c.sl i _ h
  refine ⟨v, ?_, k v H x s q Fr.refl c.at_ h2⟩
  cases e : σ[i]? with
  | none => rw [e] at h1; cases h1
  | some o => rw [e] at h1; exact congrArg some h1
theorem wp_int {i : Int} (q : Φ (.int i) s) : WE T (tC (.int i)) s ρ Φ := fun _ _ B _ H c Q k => k _ H _ s q Fr.refl c.at_ (.int i)
theorem wp_str {i : Str} (q : Φ (.str i) s) : WE T (tC (.str i)) s ρ Φ := fun _ _ B _ H c Q k => k _ H _ s q Fr.refl c.at_ (.str i)
theorem wp_bl {i : Bool} (q : Φ (.bool i) s) : WE T (tC (.bl i)) s ρ Φ := fun _ _ B _ H c Q k => k _ H _ s q Fr.refl c.at_ (.bl i)
theorem wp_non (q : Φ .none s) : WE T (tC .non) s ρ Φ := fun _ _ B _ H c Q k => k _ H _ s q Fr.refl c.at_ .non
theorem wp_op {r : R2} (h : WE T ta s ρ fun x s1 => WE T tb s1 ρ fun y s2 => RD r x y fun z => Φ z s2) : WE T (tOp r ta tb) s ρ Φ := fun A0 H0 B σ H c Q k =>
  h A0 H0 B σ H c _ fun v H1 x s1 h1 e1 a1 d1 => h1 A0 H0 B σ H1 (c.step e1 a1) _ fun w H2 y s2 h2 e2 a2 d2 =>
    h2 B H2 v w Q ((c.step e1 a1).step e2 a2).dm (DD.mono (e2.cut c.fb) _ _ d1) d2 fun u H3 z hz e3 d3 =>
      k u H3 z s2 hz ((e1.trans e2).trans (Fr.of e3)) (T.loc s2 H2 H3 (fun a o _ h => e3 a o h) a2) d3
theorem wp_un {r : V → Hp → VK → Prop} (h : WE T ta s ρ fun x s1 => R1 r x fun z => Φ z s1) : WE T (tUn r ta) s ρ Φ := fun A0 H0 B σ H c Q k =>
  h A0 H0 B σ H c _ fun v H1 x s1 h1 e1 a1 d1 => h1 B H1 v Q (c.step e1 a1).dm d1 fun u H3 z hz e3 d3 =>
      k u H3 z s1 hz (e1.trans (Fr.of e3)) (T.loc s1 H1 H3 (fun a o _ h => e3 a o h) a1) d3
theorem wp_call {r : List V → Hp → VK → Prop} {tr : TA} (h : WA T tr s ρ fun xs s1 => RC r xs fun z => Φ z s1) : WE T (tCB r tr) s ρ Φ := fun A0 H0 B σ H c Q k =>
  h A0 H0 B σ H c _ fun v H1 x s1 h1 e1 a1 d1 => h1 B H1 v Q (c.step e1 a1).dm d1 fun u H3 z hz e3 d3 =>
      k u H3 z s1 hz (e1.trans (Fr.of e3)) (T.loc s1 H1 H3 (fun a o _ h => e3 a o h) a1) d3
theorem wa_nil {Ψ : List PyData → T.S → Prop} (q : Ψ [] s) : WA T tNil s ρ Ψ := fun _ _ B _ H c Q k => k _ H _ s q Fr.refl c.at_ .nil
theorem wa_cons {tr : TA} {Ψ : List PyData → T.S → Prop} (h : WE T ta s ρ fun x s1 => WA T tr s1 ρ fun xs s2 => Ψ (x :: xs) s2) : WA T (tCons ta tr) s ρ Ψ := fun A0 H0 B σ H c Q k =>
  h A0 H0 B σ H c _ fun v H1 x s1 h1 e1 a1 d1 => h1 A0 H0 B σ H1 (c.step e1 a1) _ fun w H2 y s2 h2 e2 a2 d2 =>
    k _ H2 _ s2 h2 (e1.trans e2) a2 (.cons (DD.mono (e2.cut c.fb) _ _ d1) d2)
theorem new_cut {B : Addr → Prop} {H : Hp} {p : Addr} {o : HO} (dm : ∀ a, B a → H a ≠ none) (hp : H p = none) : cut B (upd H p o) p = some o := cut_of upd_same fun z => dm p z hp
theorem wp_tup {tr : TA} (h : WA T tr s ρ fun xs s1 => xs.length ≤ 100000 ∧ Φ (.tuple xs) s1) : WE T (tTup tr) s ρ Φ := fun A0 H0 B σ H c Q k =>
  h A0 H0 B σ H c _ fun v H1 x s1 h1 e1 a1 d1 => ⟨Nat.le_trans (by rw [d1.len]; exact h1.1) (by decide), fun p hp =>
    k _ _ _ s1 h1.2 (e1.trans (Fr.of (same_new hp))) (T.loc s1 H1 _ (fun a o _ h => same_new hp a o h) a1) (.tup (new_cut (c.step e1 a1).dm hp) (DDs.mono ((Fr.of (same_new hp)).cut c.fb) _ _ d1))⟩
theorem wp_lst {tr : TA} (h : WA T tr s ρ fun xs s1 => xs.length ≤ 100000 ∧ Φ (.list xs) s1) : WE T (tLst tr) s ρ Φ := fun A0 H0 B σ H c Q k =>
  h A0 H0 B σ H c _ fun v H1 x s1 h1 e1 a1 d1 => ⟨Nat.le_trans (by rw [d1.len]; exact h1.1) (by decide), fun p hp =>
    k _ _ _ s1 h1.2 (e1.trans (Fr.of (same_new hp))) (T.loc s1 H1 _ (fun a o _ h => same_new hp a o h) a1) (.lst (new_cut (c.step e1 a1).dm hp) (DDs.mono ((Fr.of (same_new hp)).cut c.fb) _ _ d1))⟩
theorem wp_if (h : WT T t s ρ fun b s1 => if b = true then WE T ta s1 ρ Φ else WE T tb s1 ρ Φ) : WE T (tIf t ta tb) s ρ Φ := fun A0 H0 B σ H c Q k =>
  h A0 H0 B σ H c _ fun b H1 s1 h1 e1 a1 => by
    cases b with
    | true => exact (show WE T ta s1 ρ Φ from h1) A0 H0 B σ H1 (c.step e1 a1) Q fun v H' x s' f e a => k v H' x s' f (e1.trans e) a
    | false => exact (show WE T tb s1 ρ Φ from h1) A0 H0 B σ H1 (c.step e1 a1) Q fun v H' x s' f e a => k v H' x s' f (e1.trans e) a
variable {Ψ : Bool → T.S → Prop}
theorem wt_test (h : WE T te s ρ fun x s1 => ∃ b, x = .bool b ∧ Ψ b s1) : WT T (tTest te) s ρ Ψ := fun A0 H0 B σ H c Q k =>
  h A0 H0 B σ H c _ fun v H1 x s1 ⟨b, e, q⟩ e1 a1 d1 => by
    subst e
    cases d1
    exact ⟨b, rfl, k b H1 s1 q e1 a1⟩
theorem wt_B (h : WE T te s ρ fun x s1 => ∃ b, x = .bool b ∧ Ψ b s1) : WT T (tB te) s ρ Ψ := fun A0 H0 B σ H c Q k =>
  h A0 H0 B σ H c _ fun v H1 x s1 ⟨b, e, q⟩ e1 a1 d1 => by
    subst e
    cases d1
    exact ⟨b, rfl, k b H1 s1 q e1 a1⟩
theorem wt_and (h : WT T t s ρ fun b s1 => if b = true then WT T u s1 ρ Ψ else Ψ false s1) : WT T (tAnd t u) s ρ Ψ := fun A0 H0 B σ H c Q k =>
  h A0 H0 B σ H c _ fun b H1 s1 h1 e1 a1 => by
    cases b with
    | true => exact (show WT T u s1 ρ Ψ from h1) A0 H0 B σ H1 (c.step e1 a1) Q fun v H' s' f e a => k v H' s' f (e1.trans e) a
    | false => exact k false H1 s1 h1 e1 a1
theorem wt_or (h : WT T t s ρ fun b s1 => if b = true then Ψ true s1 else WT T u s1 ρ Ψ) : WT T (tOr t u) s ρ Ψ := fun A0 H0 B σ H c Q k =>
  h A0 H0 B σ H c _ fun b H1 s1 h1 e1 a1 => by
    cases b with
    | true => exact k true H1 s1 h1 e1 a1
    | false => exact (show WT T u s1 ρ Ψ from h1) A0 H0 B σ H1 (c.step e1 a1) Q fun v H' s' f e a => k v H' s' f (e1.trans e) a
theorem wt_not (h : WT T t s ρ fun b s1 => Ψ (!b) s1) : WT T (tNot t) s ρ Ψ := fun A0 H0 B σ H c Q k =>
  h A0 H0 B σ H c _ fun b H1 s1 h1 e1 a1 => k (!b) H1 s1 h1 e1 a1
theorem wt_yes (q : Ψ true s) : WT T tYes s ρ Ψ := fun A0 H0 B σ H c Q k => k true H s q Fr.refl c.at_
theorem wp_andV (h : WE T ta s ρ fun x s1 => ∃ b, x = .bool b ∧ if b = true then WE T tb s1 ρ Φ else Φ (.bool false) s1) : WE T (tAndV ta tb) s ρ Φ := fun A0 H0 B σ H c Q k =>
  h A0 H0 B σ H c _ fun v H1 x s1 ⟨b, e, q⟩ e1 a1 d1 => by
    subst e
    cases d1
    refine ⟨b, rfl, ?_⟩
    cases b with
    | true => exact (show WE T tb s1 ρ Φ from q) A0 H0 B σ H1 (c.step e1 a1) Q fun v H' x s' f e a => k v H' x s' f (e1.trans e) a
    | false => exact k _ H1 _ s1 q e1 a1 (.bl false)
theorem wp_orV (h : WE T ta s ρ fun x s1 => ∃ b, x = .bool b ∧ if b = true then Φ (.bool true) s1 else WE T tb s1 ρ Φ) : WE T (tOrV ta tb) s ρ Φ := fun A0 H0 B σ H c Q k =>
  h A0 H0 B σ H c _ fun v H1 x s1 ⟨b, e, q⟩ e1 a1 d1 => by
    subst e
    cases d1
    refine ⟨b, rfl, ?_⟩
    cases b with
    | true => exact k _ H1 _ s1 q e1 a1 (.bl true)
    | false => exact (show WE T tb s1 ρ Φ from q) A0 H0 B σ H1 (c.step e1 a1) Q fun v H' x s' f e a => k v H' x s' f (e1.trans e) a
theorem wp_notV (h : WE T ta s ρ fun x s1 => ∃ b, x = .bool b ∧ Φ (.bool (!b)) s1) : WE T (tNotV ta) s ρ Φ := fun A0 H0 B σ H c Q k =>
  h A0 H0 B σ H c _ fun v H1 x s1 ⟨b, e, q⟩ e1 a1 d1 => by
    subst e
    cases d1
    exact ⟨b, rfl, k _ H1 _ s1 q e1 a1 (.bl _)⟩
/-- slices -/
def WO (T : Sto) (to : TO) (s : T.S) (ρ : DEnv) (Φ : Option Int → T.S → Prop) : Prop :=
  ∀ (A0 : Addr → Prop) (H0 : Hp) (B : Addr → Prop) (σ : St) (H : Hp), Cxt T A0 H0 B σ H s ρ → ∀ Q : Option Int → Hp → Prop, (∀ o H' s', Φ o s' → Fr T.F H H' → T.At s' H' → Q o H') → to σ H Q
theorem wo_none {Ξ : Option Int → T.S → Prop} (q : Ξ none s) : WO T tNoPart s ρ Ξ := fun _ _ B _ H c Q k => k _ H s q Fr.refl c.at_
theorem wo_some {Ξ : Option Int → T.S → Prop} (h : WE T te s ρ fun x s1 => ∃ i, x = .int i ∧ Ξ (some i) s1) : WO T (tPart te) s ρ Ξ := fun A0 H0 B σ H c Q k =>
  h A0 H0 B σ H c _ fun v H1 x s1 ⟨b, e, q⟩ e1 a1 d1 => by
    subst e
    cases d1
    exact ⟨b, rfl, k _ H1 s1 q e1 a1⟩
theorem wp_slice {r : V → Option Int → Option Int → Hp → VK → Prop} {tl th : TO} (h : WE T te s ρ fun x s1 => WO T tl s1 ρ fun l s2 => WO T th s2 ρ fun u s3 => RS r x l u fun z => Φ z s3) : WE T (tSl r te tl th) s ρ Φ := fun A0 H0 B σ H c Q k =>
  h A0 H0 B σ H c _ fun v H1 x s1 h1 e1 a1 d1 => h1 A0 H0 B σ H1 (c.step e1 a1) _ fun l H2 s2 h2 e2 a2 => h2 A0 H0 B σ H2 ((c.step e1 a1).step e2 a2) _ fun u H3 s3 h3 e3 a3 =>
    h3 B H3 v Q (((c.step e1 a1).step e2 a2).step e3 a3).dm (DD.mono ((e2.trans e3).cut c.fb) _ _ d1) fun y H4 z hz e4 d4 =>
      k y H4 z s3 hz (((e1.trans e2).trans e3).trans (Fr.of e4)) (T.loc s3 H3 H4 (fun a o _ h => e4 a o h) a3) d4
end
end J

namespace J
open PySem L2

/-! ### slots -/
section
variable {T : Sto} {A0 : Addr → Prop} {H0 : Hp} {B : Addr → Prop} {σ : L2.St} {H H' : Hp} {s s' : T.S} {ρ : DEnv}
theorem join_set {α : Type} {l : List (Option α)} {i j : Nat} {x : Option α} (h : i < l.length) : ((l.set i x)[j]?).join = if i = j then x else (l[j]?).join := by
  rw [List.getElem?_set]
  by_cases e : i = j
  · subst e
    rw [if_pos rfl, if_pos h, if_pos rfl]
    rfl
  · rw [if_neg e, if_neg e]
theorem Cxt.set (c : Cxt T A0 H0 B σ H s ρ) {i : Nat} {v : V} {w : W} (hw : View T H0 B H (some v) w) (no : ∀ xs, w ≠ .own xs) : Cxt T A0 H0 B (σ.set i (some v)) H s (ρ.set i (some w)) := by
  by_cases hi : i < σ.length
  · have hi' : i < ρ.length := by rw [← c.ln]; exact hi
    have own : ∀ (j : Nat) ys, (ρ.set i (some w))[j]? = some (some (.own ys)) → i ≠ j ∧ ρ[j]? = some (some (.own ys)) := fun j ys q => by
      rw [List.getElem?_set] at q
      by_cases e : i = j
      · rw [if_pos e, if_pos hi'] at q
        exact absurd (Option.some.inj (Option.some.inj q)) (no ys)
      · rw [if_neg e] at q
        exact ⟨e, q⟩
    refine ⟨c.fb, c.dm, c.at_, by rw [List.length_set, List.length_set]; exact c.ln, fun j u q => ?_, c.fr, c.ab, c.d0, c.ba, fun j k xs ys p h1 h2 h3 h4 => ?_, c.ex⟩
    · rw [join_set hi]
      rw [List.getElem?_set] at q
      by_cases e : i = j
      · rw [if_pos e, if_pos hi'] at q
        rw [if_pos e]
        cases q
        exact hw
      · rw [if_neg e] at q
        rw [if_neg e]
        exact c.sl j u q
    · obtain ⟨n1, q1⟩ := own j xs h1
      obtain ⟨n2, q2⟩ := own k ys h2
      rw [List.getElem?_set, if_neg n1] at h4
      rw [List.getElem?_set, if_neg n2]
      exact c.ow j k xs ys p q1 q2 h3 h4
  · rw [List.set_eq_of_length_le (by omega), List.set_eq_of_length_le (by rw [← c.ln]; omega)]
    exact c
theorem Cxt.setD (c : Cxt T A0 H0 B σ H s ρ) {i : Nat} {v : V} {x : PyData} (hw : DD (cut B H) v x) : Cxt T A0 H0 B (σ.set i (some v)) H s (ρ.set i (some (.d x))) :=
  c.set ⟨v, rfl, hw⟩ fun _ z => nomatch z
theorem join_some {α : Type} {o : Option (Option α)} {v : α} (h : o.join = some v) : o = some (some v) := by
  cases o with
  | none => cases h
  | some o => exact congrArg some h

/-! ### what a list of one's own becomes -/
def frzW : Option W → Option W
  | some (.own xs) => some (.d (.list xs))
  | w => w
def frz (ρ : DEnv) : DEnv := ρ.map frzW
theorem Cxt.frz (c : Cxt T A0 H0 B σ H s ρ) : Cxt T A0 H0 (fun a => A0 a ∨ T.F a) σ H s (frz ρ) := by
  have le : ∀ a, (A0 a ∨ T.F a) → B a := fun a z => z.elim (c.ab a) (c.fb a)
  refine ⟨fun a z => .inr z, fun a z => c.dm a (le a z), c.at_, by unfold J.frz; rw [List.length_map]; exact c.ln, fun j u q => ?_, c.fr, fun a z => .inl z, c.d0, fun a z => z.elim .inl fun z => .inr (.inl z), fun j k xs ys p h1 _ => ?_, c.ex⟩
  · unfold J.frz at q
    rw [List.getElem?_map] at q
    cases e : ρ[j]? with
    | none => rw [e] at q; cases q
    | some w =>
      rw [e] at q
      cases w with
      | none => cases q
      | some w =>
        have h := c.sl j w e
        cases w with
        | d x =>
          cases q
          obtain ⟨v, h1, h2⟩ := h
          exact ⟨v, h1, DD.mono (cut_mono le) _ _ h2⟩
        | v x =>
          cases q
          exact h
        | own xs =>
          cases q
          obtain ⟨p, vs, h1, h2, h3, h5, h6, h7⟩ := h
          exact ⟨.ref p, h1, .lst (cut_of h6 fun z => z.elim (fun z => c.d0 p z h5) h3) (DDs.mono (cut_mono le) _ _ h7)⟩
  · unfold J.frz at h1
    rw [List.getElem?_map] at h1
    cases e : ρ[j]? with
    | none => rw [e] at h1; cases h1
    | some w =>
      rw [e] at h1
      cases w with
      | none => cases h1
      | some w => cases w <;> cases h1

/-! ### the heap at hand as the heap that is kept -/
noncomputable def baseH (A0 B : Addr → Prop) (H : Hp) : Hp := cut (fun a => B a ∧ ¬ A0 a) H
theorem Cxt.base_fr (c : Cxt T A0 H0 B σ H s ρ) : Fr T.F H0 (baseH A0 B H) := fun a o q n => cut_of (c.fr a o q n) fun y => by
  rcases c.ba a y.1 with z | z | z
  · exact y.2 z
  · exact n z
  · rw [z] at q; cases q
theorem Cxt.base (c : Cxt T A0 H0 B σ H s ρ) : Cxt T A0 (baseH A0 B H) B σ H s ρ := by
  refine ⟨c.fb, c.dm, c.at_, c.ln, fun i w q => ?_, fun a o q _ => (cut_get q).1, c.ab, fun a z e => ?_, fun a z => ?_, c.ow, fun C k s' H' dd z e a x => c.ex C k s' H' dd z (c.base_fr.trans e) a (x.up c.base_fr)⟩
  · have h := c.sl i w q
    cases w with
    | d x => exact h
    | v x => exact h
    | own xs =>
      obtain ⟨p, vs, h1, h2, h3, h5, h6, h7⟩ := h
      refine ⟨p, vs, h1, h2, h3, ?_, h6, h7⟩
      unfold baseH cut
      rw [if_pos ⟨h2, fun z => c.d0 p z h5⟩]
  · cases q : H a with
    | none => exact c.dm a (c.ab a z) q
    | some o =>
      unfold baseH at e
      rw [cut_of q fun y => y.2 z] at e
      cases e
  · by_cases y : A0 a
    · exact .inl y
    · refine .inr (.inr ?_)
      unfold baseH cut
      rw [if_pos ⟨z, y⟩]
/-- what was pure data there is pure data later -/
theorem Cxt.later {B' : Addr → Prop} {σ' : L2.St} {s' : T.S} {ρ' : DEnv} (c : Cxt T A0 H0 B σ H s ρ) (c' : Cxt T A0 (baseH A0 B H) B' σ' H' s' ρ') : Same (cut B H) (cut B' H') := fun a o q => by
  obtain ⟨q1, q2⟩ := cut_get q
  have e : baseH A0 B H a = some o := cut_of q1 fun z => q2 z.1
  refine cut_of (c'.fr a o e fun z => q2 (c.fb a z)) fun z => ?_
  rcases c'.ba a z with y | y | y
  · exact q2 (c.ab a y)
  · exact q2 (c.fb a y)
  · rw [e] at y; cases y
/-- back to the elder one -/
theorem Cxt.back {H1 : Hp} (c : Cxt T A0 H1 B σ H s ρ) (e : Fr T.F H0 H1) (d0 : ∀ a, A0 a → H0 a ≠ none) (ex : ∀ (C : Addr) (k : Option Int) (s' : T.S) (H' : Hp) (dd : Option Addr), T.Z C k s' → Fr T.F H0 H' → T.At s' H' → ExD T.F k dd H0 H' → T.E (.ref C) dd H') : Cxt T A0 H0 B σ H s ρ := by
  have no : ∀ p, ¬ T.F p → H1 p = none → H0 p = none := fun p h3 h5 => by
    cases q : H0 p with
    | none => rfl
    | some o => rw [e p o q h3] at h5; cases h5
  refine ⟨c.fb, c.dm, c.at_, c.ln, fun i w q => ?_, e.trans c.fr, c.ab, d0, fun a z => ?_, c.ow, ex⟩
  · have h := c.sl i w q
    cases w with
    | d x => exact h
    | v x => exact h
    | own xs =>
      obtain ⟨p, vs, h1, h2, h3, h5, h6, h7⟩ := h
      exact ⟨p, vs, h1, h2, h3, no p h3 h5, h6, h7⟩
  · by_cases f : T.F a
    · exact .inr (.inl f)
    · rcases c.ba a z with y | y | y
      · exact .inl y
      · exact absurd y f
      · exact .inr (.inr (no a f y))
end

/-! ### statements -/
section
variable {T : Sto} {s : T.S} {ρ : DEnv} {R : PyData → T.S → Prop} {N : DEnv → T.S → Prop} {te : TE} {t u : TS} {tt : TT}
theorem WS.mono {N' : DEnv → T.S → Prop} (h : WS T t s ρ R N) (k : ∀ ρ s, N ρ s → N' ρ s) : WS T t s ρ R N' := fun A0 H0 B σ H c D r n => h A0 H0 B σ H c D r fun B' σ' H' s' ρ' z => n B' σ' H' s' ρ' (k ρ' s' z)
theorem ws_next (q : N ρ s) : WS T tNext s ρ R N := fun A0 H0 B σ H c D r n => n B σ H s ρ q c
theorem ws_seq (h : WS T t s ρ R fun ρ1 s1 => WS T u s1 ρ1 R N) : WS T (tSeq t u) s ρ R N := fun A0 H0 B σ H c D r n =>
  h A0 H0 B σ H c { D with nx := u D } r fun B' σ' H' s' ρ' h' c' => h' A0 H0 B' σ' H' c' D r n
theorem ws_if (h : WT T tt s ρ fun b s1 => if b = true then WS T t s1 ρ R N else WS T u s1 ρ R N) : WS T (tIfS tt t u) s ρ R N := fun A0 H0 B σ H c D r n =>
  h A0 H0 B σ H c _ fun b H1 s1 h1 e1 a1 => by
    cases b with
    | true => exact (show WS T t s1 ρ R N from h1) A0 H0 B σ H1 (c.step e1 a1) D r n
    | false => exact (show WS T u s1 ρ R N from h1) A0 H0 B σ H1 (c.step e1 a1) D r n
theorem ws_ret (h : WE T te s (frz ρ) R) : WS T (tRet te) s ρ R N := fun A0 H0 B σ H c D r n =>
  h A0 H0 _ σ H c.frz _ fun v H' x s' f e a d => r v H' x s' f (c.fr.trans e) a (DD.mono (cut_mono fun _ z => .inl z) _ _ d)
theorem ws_retN (q : R .none s) : WS T tRetN s ρ R N := fun A0 H0 B σ H c D r n => r .non H _ s q c.fr c.at_ .non
theorem ws_drop (h : WE T te s ρ fun _ s1 => N ρ s1) : WS T (tDrop te) s ρ R N := fun A0 H0 B σ H c D r n =>
  h A0 H0 B σ H c _ fun v H' x s' f e a _ => n B σ H' s' ρ f (c.step e a)
/-- a target -/
def WG (T : Sto) (g : TG) (x : PyData) (s : T.S) (ρ : DEnv) (N : DEnv → T.S → Prop) : Prop :=
  ∀ (A0 : Addr → Prop) (H0 : Hp) (B : Addr → Prop) (σ : L2.St) (H : Hp), Cxt T A0 H0 B σ H s ρ → ∀ v, DD (cut B H) v x → ∀ Q : L2.St → Hp → Prop, (∀ σ' ρ', N ρ' s → Cxt T A0 H0 B σ' H s ρ' → Q σ' H) → g v σ H Q
theorem wg_name {i : Nat} {x : PyData} (q : N (ρ.set i (some (.d x))) s) : WG T (gName i) x s ρ N := fun A0 H0 B σ H c v d Q k => k _ _ q (c.setD d)
theorem wg_tup2 {K : PySem.W.Frag} {i j : Nat} {x y : PyData} (q : N ((ρ.set i (some (.d x))).set j (some (.d y))) s) : WG T (gTup K 2 (gCons (gName i) (gCons (gName j) gNil))) (.tuple [x, y]) s ρ N := fun A0 H0 B σ H c v d Q k => by
  cases d with
  | tup ha hs =>
    cases hs with
    | cons d1 hs =>
      cases hs with
      | cons d2 hs =>
        cases hs
        exact ⟨_, _, rfl, SqT.of (cut_get ha).1, rfl, _, _, rfl, _, _, rfl, rfl, k _ _ q ((c.setD d1).setD d2)⟩
theorem wg_tup3 {K : PySem.W.Frag} {i j l : Nat} {x y z : PyData} (q : N (((ρ.set i (some (.d x))).set j (some (.d y))).set l (some (.d z))) s) :
    WG T (gTup K 3 (gCons (gName i) (gCons (gName j) (gCons (gName l) gNil)))) (.tuple [x, y, z]) s ρ N := fun A0 H0 B σ H c v d Q k => by
  cases d with
  | tup ha hs =>
    cases hs with
    | cons d1 hs =>
      cases hs with
      | cons d2 hs =>
        cases hs with
        | cons d3 hs =>
          cases hs
          exact ⟨_, _, rfl, SqT.of (cut_get ha).1, rfl, _, _, rfl, _, _, rfl, _, _, rfl, rfl, k _ _ q (((c.setD d1).setD d2).setD d3)⟩
theorem wg_tup4 {K : PySem.W.Frag} {i j l m : Nat} {x y z a : PyData} (q : N ((((ρ.set i (some (.d x))).set j (some (.d y))).set l (some (.d z))).set m (some (.d a))) s) :
    WG T (gTup K 4 (gCons (gName i) (gCons (gName j) (gCons (gName l) (gCons (gName m) gNil))))) (.tuple [x, y, z, a]) s ρ N := fun A0 H0 B σ H c v d Q k => by
  cases d with
  | tup ha hs =>
    cases hs with
    | cons d1 hs =>
      cases hs with
      | cons d2 hs =>
        cases hs with
        | cons d3 hs =>
          cases hs with
          | cons d4 hs =>
            cases hs
            exact ⟨_, _, rfl, SqT.of (cut_get ha).1, rfl, _, _, rfl, _, _, rfl, _, _, rfl, _, _, rfl, rfl, k _ _ q ((((c.setD d1).setD d2).setD d3).setD d4)⟩
theorem ws_asg {g : TG} (h : WE T te s ρ fun x s1 => WG T g x s1 ρ N) : WS T (tAsg te g) s ρ R N := fun A0 H0 B σ H c D r n =>
  h A0 H0 B σ H c _ fun v H' x s' f e a d => f A0 H0 B σ H' (c.step e a) v d _ fun σ' ρ' z c' => n B σ' H' s' ρ' z c'
/-- x = [..], a list of one's own -/
theorem ws_own {ta : TA} {i : Nat} (h : WA T ta s ρ fun xs s1 => xs.length ≤ 100000 ∧ i < ρ.length ∧ N (ρ.set i (some (.own xs))) s1) : WS T (tAsg (tLst ta) (gName i)) s ρ R N := fun A0 H0 B σ H c D r n =>
  h A0 H0 B σ H c _ fun vs H1 xs s1 ⟨hl, hi, f⟩ e a d => ⟨Nat.le_trans (by rw [d.len]; exact hl) (by decide), fun p hp => by
    have c1 := c.step e a
    have sm : Same H1 (upd H1 p (.lst vs)) := same_new hp
    have nb : ¬ B p := fun z => c1.dm p z hp
    have nf : ¬ T.F p := fun z => nb (c1.fb p z)
    have n0 : H0 p = none := by
      cases q : H0 p with
      | none => rfl
      | some o => rw [c1.fr p o q nf] at hp; cases hp
    have hi2 : i < σ.length := by rw [c.ln]; exact hi
    have nown : ∀ (j : Nat), σ[j]? = some (some (.ref p)) → ∀ ys, ρ[j]? ≠ some (some (.own ys)) := fun j hj ys q => by
      obtain ⟨p', vs', h1, h2, _⟩ := c1.sl j _ q
      have z := join_some h1
      rw [hj] at z
      cases z
      exact nb h2
    have sc : Same (cut B H1) (cut (fun a => B a ∨ a = p) (upd H1 p (.lst vs))) := fun b o q => by
      obtain ⟨q1, q2⟩ := cut_get q
      exact cut_of (sm b o q1) fun z => z.elim q2 fun z => ne_of_none q1 hp z
    refine n (fun a => B a ∨ a = p) _ _ s1 _ f ⟨fun b z => .inl (c.fb b z), fun b z => ?_, T.loc s1 H1 _ (fun b o _ q => sm b o q) a, by rw [List.length_set, List.length_set]; exact c.ln, fun j w q => ?_, c1.fr.trans (Fr.of sm), fun b z => .inl (c.ab b z), c.d0, fun b z => z.elim (c.ba b) fun z => .inr (.inr (by rw [z]; exact n0)), fun j k ys zs q h1 h2 h3 h4 h5 => ?_, c.ex⟩
    · rcases z with z | z
      · cases q : H1 b with
        | none => exact absurd q (c1.dm b z)
        | some o => rw [sm b o q]; exact fun z => nomatch z
      · rw [z, upd_same]
        exact fun z => nomatch z
    · rw [join_set hi2]
      rw [List.getElem?_set] at q
      by_cases e' : i = j
      · rw [if_pos e', if_pos hi] at q
        rw [if_pos e']
        cases q
        exact ⟨p, vs, rfl, .inr rfl, nf, n0, upd_same, DDs.mono sc _ _ d⟩
      · rw [if_neg e'] at q
        rw [if_neg e']
        have z := c1.sl j w q
        cases w with
        | d x => obtain ⟨v, z1, z2⟩ := z; exact ⟨v, z1, DD.mono sc _ _ z2⟩
        | v x => exact z
        | own xs => obtain ⟨p', vs', z1, z2, z3, z5, z6, z7⟩ := z; exact ⟨p', vs', z1, .inl z2, z3, z5, sm _ _ z6, DDs.mono sc _ _ z7⟩
    · rw [List.getElem?_set] at h1 h2 h4 h5
      by_cases e1 : i = j
      · rw [if_pos e1, if_pos hi2] at h4
        cases h4
        have e2 : ¬ i = k := fun z => h3 (e1.symm.trans z)
        rw [if_neg e2] at h2 h5
        exact nown k h5 zs h2
      · rw [if_neg e1] at h1 h4
        by_cases e2 : i = k
        · rw [if_pos e2, if_pos hi2] at h5
          cases h5
          exact nown j h4 ys h1
        · rw [if_neg e2] at h2 h5
          exact c.ow j k ys zs q h1 h2 h3 h4 h5⟩
/-- x.append(e), x a list of one's own -/
theorem ws_app {K : PySem.W.Frag} {i : Nat} {xs : List PyData} (ho : ρ[i]? = some (some (.own xs))) (h : WE T te s ρ fun x s1 => xs.length < 100000 ∧ N (ρ.set i (some (.own (xs ++ [x])))) s1) :
    WS T (tDrop (tBM K "list" rAppend (tVar i) (tCons te tNil))) s ρ R N := fun A0 H0 B σ H c D r n => by
  obtain ⟨p, vs, h1, h2, h3, h5, h6, h7⟩ := c.sl i _ ho
  have hi := join_some h1
  refine ⟨_, hi, Or.inl ⟨rfl, _, SqL.of h6⟩, h A0 H0 B σ H c _ fun v H1 x s1 ⟨hl, f⟩ e a d => ?_⟩
  have c1 := c.step e a
  have hp : H1 p = some (.lst vs) := e _ _ h6 h3
  refine ⟨p, vs, v, rfl, rfl, hp, Nat.lt_of_lt_of_le (by rw [h7.len]; exact hl) (by decide), ?_⟩
  have fr : Fr (fun a => a = p) H1 (upd H1 p (.lst (vs ++ [v]))) := fun b o q z => by rw [upd_ne z]; exact q
  have sc : Same (cut B H1) (cut B (upd H1 p (.lst (vs ++ [v])))) := fr.cut fun b z => by rw [z]; exact h2
  have hil : i < ρ.length := (List.getElem?_eq_some_iff.mp ho).1
  have sset : σ.set i (some (.ref p)) = σ := by
    apply List.ext_getElem?
    intro j
    rw [List.getElem?_set]
    by_cases e' : i = j
    · subst e'
      rw [if_pos rfl, if_pos (by rw [c.ln]; exact hil), hi]
    · rw [if_neg e']
  have iso : ∀ (j : Nat) ys, (ρ.set i (some (.own (xs ++ [x]))))[j]? = some (some (.own ys)) → ∃ zs, ρ[j]? = some (some (.own zs)) := fun j ys q => by
    rw [List.getElem?_set] at q
    by_cases e' : i = j
    · subst e'; exact ⟨_, ho⟩
    · rw [if_neg e'] at q; exact ⟨_, q⟩
  refine n B σ _ s1 _ f ⟨c.fb, fun b z => ?_, T.loc s1 H1 _ (fun b o hb q => ?_) a, by rw [List.length_set]; exact c.ln, fun j w q => ?_, fun b o q z => ?_, c.ab, c.d0, c.ba, fun j k ys zs q q1 q2 q3 q4 => ?_, c.ex⟩
  · by_cases e' : b = p
    · rw [e', upd_same]; exact fun z => nomatch z
    · rw [upd_ne e']; exact c1.dm b z
  · rw [upd_ne fun z => h3 (by rw [← z]; exact hb)]; exact q
  · rw [List.getElem?_set] at q
    by_cases e' : i = j
    · subst e'
      rw [if_pos rfl, if_pos hil] at q
      cases q
      exact ⟨p, _, h1, h2, h3, h5, upd_same, (DDs.mono (sc) _ _ (DDs.mono (e.cut c.fb) _ _ h7)).app (DDs.one (DD.mono sc _ _ d))⟩
    · rw [if_neg e'] at q
      have z := c1.sl j w q
      cases w with
      | d x => obtain ⟨v, z1, z2⟩ := z; exact ⟨v, z1, DD.mono sc _ _ z2⟩
      | v x => exact z
      | own ys =>
        obtain ⟨p', vs', z1, z2, z3, z5, z6, z7⟩ := z
        have np : p' ≠ p := fun zz => by
          subst zz
          exact c.ow i j xs ys p' ho q e' hi (join_some z1)
        exact ⟨p', vs', z1, z2, z3, z5, by rw [upd_ne np]; exact z6, DDs.mono sc _ _ z7⟩
  · rw [upd_ne fun zz => by rw [zz, h5] at q; cases q]
    exact c1.fr b o q z
  · obtain ⟨ys', y1⟩ := iso j ys q1
    obtain ⟨zs', y2⟩ := iso k zs q2
    exact c.ow j k ys' zs' q y1 y2 q3 q4
theorem ws_weak {ρ' : DEnv} (h : WS T t s ρ' R N) (le : ρ'.length = ρ.length ∧ ∀ (i : Nat) w, ρ'[i]? = some (some w) → ρ[i]? = some (some w)) : WS T t s ρ R N := fun A0 H0 B σ H c D r n =>
  h A0 H0 B σ H ⟨c.fb, c.dm, c.at_, c.ln.trans le.1.symm, fun i w q => c.sl i w (le.2 i w q), c.fr, c.ab, c.d0, c.ba, fun i j xs ys p h1 h2 => c.ow i j xs ys p (le.2 _ _ h1) (le.2 _ _ h2), c.ex⟩ D r n
theorem ws_while {W' : Nat → DEnv → T.S → Prop} {m0 : Nat} (h0 : W' m0 ρ s) (hs : ∀ m ρ s, W' m ρ s → WT T tt s ρ fun b s1 => if b = true then WS T t s1 ρ R (fun ρ' s' => ∃ m', m' < m ∧ W' m' ρ' s') else N ρ s1) :
    WS T (tWhile tt t) s ρ R N := fun A0 H0 B σ H c D r n => by
  refine ⟨fun m σ H => ∃ B s ρ, W' m ρ s ∧ Cxt T A0 H0 B σ H s ρ, ⟨m0, B, s, ρ, h0, c⟩, ?_⟩
  rintro m σ1 H1 ⟨B1, s1, ρ1, w1, c1⟩
  refine hs m ρ1 s1 w1 A0 H0 B1 σ1 H1 c1 _ fun b H2 s2 h2 e2 a2 => ?_
  cases b with
  | true =>
    refine ⟨fun σ' H' => ∃ m', m' < m ∧ ∃ B s ρ, W' m' ρ s ∧ Cxt T A0 H0 B σ' H' s ρ, fun σ' H' ⟨m', hm, q⟩ => ⟨m', hm, q⟩, ?_⟩
    exact (show WS T t s2 ρ1 R _ from h2) A0 H0 B1 σ1 H2 (c1.step e2 a2) _ r fun B' σ' H' s' ρ' ⟨m', hm, q⟩ c' => ⟨m', hm, B', s', ρ', q, c'⟩
  | false => exact n B1 σ1 H2 s2 ρ1 h2 (c1.step e2 a2)
end
/-- what a for, a comprehension walks: a list or a tuple -/
def iSeq (K : PySem.W.Frag) (tl : TE) : TI := fun σ H R => iList K tl σ H R ∨ iTup K tl σ H R
theorem pi_seq {X : Cx} {tg l : Expr} {tl : TE} (hl : PE X l tl) : PI X tg l (iSeq X.K tl) := by
  refine ⟨fun pins s σ H R I h => ?_⟩
  rcases h with h | h
  · exact (pi_list hl).run pins s σ H R I h
  · exact (pi_tup hl).run pins s σ H R I h
end J

namespace J
open PySem L2
section
variable {T : Sto} {s : T.S} {ρ : DEnv} {R : PyData → T.S → Prop} {N : DEnv → T.S → Prop} {te tl : TE} {tb : TS} {tt : TT} {g : TG} {K : PySem.W.Frag}

/-! ### for -/
theorem ws_for_list (h : WE T tl s ρ fun x s1 => ∃ ds, x = .list ds ∧ ∃ I : Nat → DEnv → T.S → Prop, I 0 ρ s1 ∧
      (∀ (i : Nat) d ρ' s', ds[i]? = some d → I i ρ' s' → WG T g d s' ρ' fun ρ2 s2 => WS T tb s2 ρ2 R (I (i + 1))) ∧ ∀ ρ' s', I ds.length ρ' s' → N ρ' s') :
    WS T (tFor (iSeq K tl) g tb) s ρ R N := fun A0 H0 B σ H c D r n => .inl <|
  h A0 H0 B σ H c _ fun v H1 x s1 ⟨ds, ex, I, h0, hs, hd⟩ e a d => by
    subst ex
    cases d with
    | @lst p xs _ ha hx =>
      obtain ⟨ha1, ha2⟩ := cut_get ha
      have c1 := c.step e a
      have nf : ¬ T.F p := fun z => ha2 (c.fb p z)
      have hp0 : baseH A0 B H1 p = some (.lst xs) := cut_of ha1 fun z => ha2 z.1
      refine ⟨p, rfl, ⟨xs, SqL.of ha1⟩, for_list (K := K) (a := p) (xs := xs) (fun i σ' H' => ∃ B' s' ρ', I i ρ' s' ∧ Cxt T A0 (baseH A0 B H1) B' σ' H' s' ρ') ⟨B, s1, ρ, h0, c1.base⟩ (fun i σ' H' _ ⟨B', s', ρ', _, c'⟩ => SqL.of (c'.fr p _ hp0 nf)) ?_ ?_⟩
      · rintro i y σ' H' hi ⟨B', s', ρ', hI, c'⟩
        obtain ⟨d, e1, e2⟩ := hx.get' hi
        refine hs i d ρ' s' e1 hI A0 _ B' σ' H' c' y (DD.mono (c1.later c') _ _ e2) _ fun σ2 ρ2 hw c2 => ?_
        exact hw A0 _ B' σ2 H' c2 _ (fun v H' x s' f e a d => r v H' x s' f (c1.base_fr.trans e) a d) fun B' σ' H' s' ρ' hI c' => ⟨B', s', ρ', hI, c'⟩
      · rintro σ' H' ⟨B', s', ρ', hI, c'⟩
        rw [hx.len] at hI
        exact n B' σ' H' s' ρ' (hd ρ' s' hI) (c'.back c1.base_fr c.d0 c.ex)
theorem ws_for_tup (h : WE T tl s ρ fun x s1 => ∃ ds, x = .tuple ds ∧ ∃ I : Nat → DEnv → T.S → Prop, I 0 ρ s1 ∧
      (∀ (i : Nat) d ρ' s', ds[i]? = some d → I i ρ' s' → WG T g d s' ρ' fun ρ2 s2 => WS T tb s2 ρ2 R (I (i + 1))) ∧ ∀ ρ' s', I ds.length ρ' s' → N ρ' s') :
    WS T (tFor (iSeq K tl) g tb) s ρ R N := fun A0 H0 B σ H c D r n => .inr <|
  h A0 H0 B σ H c _ fun v H1 x s1 ⟨ds, ex, I, h0, hs, hd⟩ e a d => by
    subst ex
    cases d with
    | @tup p xs _ ha hx =>
      obtain ⟨ha1, ha2⟩ := cut_get ha
      have c1 := c.step e a
      have nf : ¬ T.F p := fun z => ha2 (c.fb p z)
      have hp0 : baseH A0 B H1 p = some (.tup xs) := cut_of ha1 fun z => ha2 z.1
      refine ⟨p, rfl, ⟨xs, SqT.of ha1⟩, for_tup (K := K) (a := p) (xs := xs) (fun i σ' H' => ∃ B' s' ρ', I i ρ' s' ∧ Cxt T A0 (baseH A0 B H1) B' σ' H' s' ρ') ⟨B, s1, ρ, h0, c1.base⟩ (fun i σ' H' _ ⟨B', s', ρ', _, c'⟩ => SqT.of (c'.fr p _ hp0 nf)) ?_ ?_⟩
      · rintro i y σ' H' hi ⟨B', s', ρ', hI, c'⟩
        obtain ⟨d, e1, e2⟩ := hx.get' hi
        refine hs i d ρ' s' e1 hI A0 _ B' σ' H' c' y (DD.mono (c1.later c') _ _ e2) _ fun σ2 ρ2 hw c2 => ?_
        exact hw A0 _ B' σ2 H' c2 _ (fun v H' x s' f e a d => r v H' x s' f (c1.base_fr.trans e) a d) fun B' σ' H' s' ρ' hI c' => ⟨B', s', ρ', hI, c'⟩
      · rintro σ' H' ⟨B', s', ρ', hI, c'⟩
        rw [hx.len] at hI
        exact n B' σ' H' s' ρ' (hd ρ' s' hI) (c'.back c1.base_fr c.d0 c.ex)
theorem ws_for_range {ta : TA} (h : WA T ta s ρ fun xs s1 => ∃ n : Int, xs = [.int n] ∧ n ≤ 1000000 ∧ -1000000 ≤ n ∧ ∃ I : Nat → DEnv → T.S → Prop, I 0 ρ s1 ∧
      (∀ (i : Nat) ρ' s', (i : Int) < n → I i ρ' s' → WG T g (.int (i : Int)) s' ρ' fun ρ2 s2 => WS T tb s2 ρ2 R (I (i + 1))) ∧ ∀ ρ' s', I n.toNat ρ' s' → N ρ' s') :
    WS T (tFor (iRng1 ta) g tb) s ρ R N := fun A0 H0 B σ H c D r n =>
  h A0 H0 B σ H c _ fun vs H1 xs s1 ⟨m, ex, hm, hm2, I, h0, hs, hd⟩ e a d => by
    subst ex
    cases d with
    | cons d1 d2 =>
      cases d1
      cases d2
      have c1 := c.step e a
      refine ⟨m, rfl, by omega, by omega, for_range (lo := 0) (n := m.toNat) (fun i σ' H' => ∃ B' s' ρ', I i ρ' s' ∧ Cxt T A0 H0 B' σ' H' s' ρ') ⟨B, s1, ρ, h0, c1⟩ ?_ ?_⟩
      · rintro i σ' H' hi ⟨B', s', ρ', hI, c'⟩
        have e0 : (0 : Int) + (i : Int) = (i : Int) := Int.zero_add _
        rw [e0]
        refine hs i ρ' s' (by omega) hI A0 _ B' σ' H' c' _ (.int _) _ fun σ2 ρ2 hw c2 => ?_
        exact hw A0 _ B' σ2 H' c2 _ r fun B' σ' H' s' ρ' hI c' => ⟨B', s', ρ', hI, c'⟩
      · rintro σ' H' ⟨B', s', ρ', hI, c'⟩
        exact n B' σ' H' s' ρ' (hd ρ' s' hI) c'

/-! ### comprehensions -/
def wipeE (ρ : DEnv) : List Nat → DEnv
  | [] => ρ
  | v :: vs => (wipeE ρ vs).set v none
theorem wipe_in {σ : L2.St} {j : Nat} : ∀ {vs : List Nat}, j ∈ vs → (wipe σ vs)[j]? = if j < σ.length then some none else none
  | v :: vs, h => by
    unfold wipe
    rw [List.getElem?_set, wipe_length]
    by_cases e : v = j
    · rw [if_pos e, e]
    · rw [if_neg e]
      exact wipe_in ((List.mem_cons.mp h).resolve_left fun z => e z.symm)
theorem wipe_set {σ : L2.St} {vs : List Nat} {i : Nat} {x : Option V} (h : i ∈ vs) : wipe ((wipe σ vs).set i x) vs = wipe σ vs := by
  apply List.ext_getElem?
  intro j
  by_cases e : j ∈ vs
  · rw [wipe_in e, wipe_in e, List.length_set, wipe_length]
  · rw [wipe_out e, List.getElem?_set, if_neg fun z => e (by rw [← z]; exact h)]
section
variable {A0 : Addr → Prop} {H0 : Hp} {B : Addr → Prop} {σ : L2.St} {H H1 : Hp}
theorem Cxt.unset (c : Cxt T A0 H0 B σ H s ρ) (i : Nat) : Cxt T A0 H0 B (σ.set i none) H s (ρ.set i none) := by
  have old : ∀ (j : Nat) (w : W), (ρ.set i none)[j]? = some (some w) → i ≠ j ∧ ρ[j]? = some (some w) := fun j w q => by
    rw [List.getElem?_set] at q
    by_cases e : i = j
    · rw [if_pos e] at q
      by_cases hl : i < ρ.length
      · rw [if_pos hl] at q; cases q
      · rw [if_neg hl] at q; cases q
    · rw [if_neg e] at q
      exact ⟨e, q⟩
  refine ⟨c.fb, c.dm, c.at_, by rw [List.length_set, List.length_set]; exact c.ln, fun j w q => ?_, c.fr, c.ab, c.d0, c.ba, fun j k xs ys p h1 h2 h3 h4 => ?_, c.ex⟩
  · obtain ⟨e, q'⟩ := old j w q
    rw [List.getElem?_set, if_neg e]
    exact c.sl j w q'
  · obtain ⟨e1, q1⟩ := old j _ h1
    obtain ⟨e2, q2⟩ := old k _ h2
    rw [List.getElem?_set, if_neg e1] at h4
    rw [List.getElem?_set, if_neg e2]
    exact c.ow j k xs ys p q1 q2 h3 h4
theorem Cxt.wipe (c : Cxt T A0 H0 B σ H s ρ) : ∀ vs : List Nat, Cxt T A0 H0 B (L2.wipe σ vs) H s (wipeE ρ vs)
  | [] => c
  | v :: vs => (Cxt.wipe c vs).unset v
/-- within a comprehension, its list at D -/
theorem Cxt.comp {s1 : T.S} {L : Addr} {vs : List V} (c : Cxt T A0 H0 B σ H1 s1 ρ) (hD : H1 L = none) (e : ∀ a o, H1 a = some o → ¬ T.F a → a ≠ L → H a = some o) (hL : H L = some (.lst vs)) (a : T.At s H) :
    Cxt T A0 H0 (fun a => B a ∨ a = L) σ H s ρ := by
  have nb : ¬ B L := fun z => c.dm L z hD
  have nf : ¬ T.F L := fun z => nb (c.fb L z)
  have keep : ∀ a o, H1 a = some o → ¬ T.F a → H a = some o := fun a o q n => e a o q n fun z => by rw [z, hD] at q; cases q
  have n0 : H0 L = none := by
    cases q : H0 L with
    | none => rfl
    | some o => rw [c.fr L o q nf] at hD; cases hD
  have sc : Same (cut B H1) (cut (fun a => B a ∨ a = L) H) := fun b o q => by
    obtain ⟨q1, q2⟩ := cut_get q
    exact cut_of (keep b o q1 fun z => q2 (c.fb b z)) fun z => z.elim q2 fun z => by rw [z, hD] at q1; cases q1
  refine ⟨fun b z => .inl (c.fb b z), fun b z => ?_, a, c.ln, fun i w q => ?_, c.fr.trans keep, fun b z => .inl (c.ab b z), c.d0, fun b z => z.elim (c.ba b) fun z => .inr (.inr (by rw [z]; exact n0)), c.ow, c.ex⟩
  · rcases z with z | z
    · by_cases f : T.F b
      · exact T.dom _ _ _ a f
      · cases q : H1 b with
        | none => exact absurd q (c.dm b z)
        | some o => rw [keep b o q f]; exact fun z => nomatch z
    · rw [z, hL]; exact fun z => nomatch z
  · have z := c.sl i w q
    cases w with
    | d x => obtain ⟨v, z1, z2⟩ := z; exact ⟨v, z1, DD.mono sc _ _ z2⟩
    | v x => exact z
    | own xs => obtain ⟨p, us, z1, z2, z3, z5, z6, z7⟩ := z; exact ⟨p, us, z1, .inl z2, z3, z5, keep p _ z6 z3, DDs.mono sc _ _ z7⟩
end
/-- one turn of a comprehension -/
def LcT (T : Sto) (g : TG) (tt : TT) (te : TE) (vs : List Nat) (ρ : DEnv) (d : PyData) (acc : List PyData) (s : T.S) (I : List PyData → T.S → Prop) : Prop :=
  WG T g d s (wipeE ρ vs) fun ρ2 s2 => WT T tt s2 ρ2 fun b s3 => if b = true then WE T te s3 ρ2 fun y s4 => acc.length < 100000 ∧ I (acc ++ [y]) s4 else I acc s3
/-- what a comprehension's targets store: own slots alone -/
structure GIn (g : TG) (vs : List Nat) : Prop where
  ok : ∀ (σ : L2.St) (v : V) (H : Hp) (Q : L2.St → Hp → Prop), g v (L2.wipe σ vs) H Q → g v (L2.wipe σ vs) H fun σ' H' => L2.wipe σ' vs = L2.wipe σ vs ∧ Q σ' H'
theorem gin_name {i : Nat} {vs : List Nat} (h : i ∈ vs) : GIn (gName i) vs := ⟨fun σ v H Q q => ⟨wipe_set h, q⟩⟩
theorem gin_tup2 {K : PySem.W.Frag} {n i j : Nat} {vs : List Nat} (h : i ∈ vs) (h' : j ∈ vs) : GIn (gTup K n (gCons (gName i) (gCons (gName j) gNil))) vs := ⟨fun σ v H Q q => by
  obtain ⟨a, xs, e, ht, hl, x, r, e1, y, r', e2, e3, q⟩ := q
  refine ⟨a, xs, e, ht, hl, x, r, e1, y, r', e2, e3, ?_, q⟩
  apply List.ext_getElem?
  intro k
  by_cases ek : k ∈ vs
  · rw [wipe_in ek, wipe_in ek, List.length_set, List.length_set, wipe_length]
  · rw [wipe_out ek, List.getElem?_set, if_neg (fun z => ek (by rw [← z]; exact h')), List.getElem?_set, if_neg (fun z => ek (by rw [← z]; exact h))]⟩
section
variable {vs : List Nat} {Φ : PyData → T.S → Prop}
/-- the invariant of a comprehension's run -/
def LcI (T : Sto) (B : Addr → Prop) (H1 : Hp) (L : Addr) (I : Nat → List PyData → T.S → Prop) (i : Nat) (H : Hp) : Prop :=
  ∃ acc us s, I i acc s ∧ H L = some (.lst us) ∧ DDs (cut (fun a => B a ∨ a = L) H) us acc ∧ T.At s H ∧ ∀ a o, H1 a = some o → ¬ T.F a → a ≠ L → H a = some o
theorem lc_turn {A0 : Addr → Prop} {H0 : Hp} {B : Addr → Prop} {σ : L2.St} {H H1 : Hp} {s1 : T.S} {L : Addr} {I : Nat → List PyData → T.S → Prop} {i : Nat} {d : PyData} {y : V} (gi : GIn g vs) (c : Cxt T A0 H0 B σ H1 s1 ρ) (hD : H1 L = none)
    (p : LcI T B H1 L I i H) (hy : DD (cut B H1) y d) (hs : ∀ acc s, I i acc s → LcT T g tt te vs ρ d acc s (I (i + 1))) :
    g y (L2.wipe σ vs) H fun σ2 H2 => L2.wipe σ2 vs = L2.wipe σ vs ∧ tt σ2 H2 fun b H3 => if b = true then te σ2 H3 fun y H4 => ∃ acc, H4 L = some (.lst acc) ∧ acc.length < sizeLine ∧ LcI T B H1 L I (i + 1) (upd H4 L (.lst (acc ++ [y]))) else LcI T B H1 L I (i + 1) H3 := by
  obtain ⟨acc, us, s', hI, hL, hu, a, e⟩ := p
  have nb : ¬ B L := fun z => c.dm L z hD
  have nf : ¬ T.F L := fun z => nb (c.fb L z)
  have c2 := (c.wipe vs).comp hD e hL a
  have sc : Same (cut B H1) (cut (fun a => B a ∨ a = L) H) := fun b o q => by
    obtain ⟨q1, q2⟩ := cut_get q
    have nl : b ≠ L := fun z => by rw [z, hD] at q1; cases q1
    exact cut_of (e b o q1 (fun z => q2 (c.fb b z)) nl) fun z => z.elim q2 nl
  refine gi.ok σ y H _ (hs acc s' hI A0 H0 _ _ H c2 y (DD.mono sc _ _ hy) _ fun σ2 ρ2 hw c3 => ?_)
  refine hw A0 H0 _ σ2 H c3 _ fun b H3 s3 h3 e3 a3 => ?_
  have k3 : ∀ a o, H1 a = some o → ¬ T.F a → a ≠ L → H3 a = some o := fun a o q n z => e3 a o (e a o q n z) n
  have sm3 := e3.cut c3.fb
  cases b with
  | false => exact ⟨acc, us, s3, h3, e3 L _ hL nf, DDs.mono sm3 _ _ hu, a3, k3⟩
  | true =>
    refine (show WE T te s3 ρ2 _ from h3) A0 H0 _ σ2 H3 (c3.step e3 a3) _ fun y H4 x s4 ⟨hl, h4⟩ e4 a4 d4 => ?_
    have sm4 := e4.cut c3.fb
    have L4 : H4 L = some (.lst us) := e4 L _ (e3 L _ hL nf) nf
    have smL : Same (cut (fun a => B a ∨ a = L) H4) (cut (fun a => B a ∨ a = L) (upd H4 L (.lst (us ++ [y])))) := fun b o q => by
      obtain ⟨q1, q2⟩ := cut_get q
      exact cut_of (by rw [upd_ne fun z => q2 (.inr z)]; exact q1) q2
    refine ⟨us, L4, Nat.lt_of_lt_of_le (by rw [hu.len]; exact hl) (by decide), _, us ++ [y], s4, h4, upd_same, (DDs.mono smL _ _ (DDs.mono sm4 _ _ (DDs.mono sm3 _ _ hu))).app (DDs.one (DD.mono smL _ _ d4)), T.loc s4 H4 _ (fun b o hb q => by rw [upd_ne fun z => nf (by rw [← z]; exact hb)]; exact q) a4, fun b o q n z => by rw [upd_ne z]; exact e4 b o (k3 b o q n z) n⟩
theorem lc_end {A0 : Addr → Prop} {H0 : Hp} {B : Addr → Prop} {σ : L2.St} {H H1 : Hp} {s1 : T.S} {L : Addr} {I : Nat → List PyData → T.S → Prop} {n : Nat} (c : Cxt T A0 H0 B σ H1 s1 ρ) (hD : H1 L = none) (p : LcI T B H1 L I n H) (hd : ∀ acc s, I n acc s → Φ (.list acc) s) :
    ∃ x s', Φ x s' ∧ Fr T.F H1 H ∧ T.At s' H ∧ DD (cut B H) (.ref L) x := by
  obtain ⟨acc, us, s', hI, hL, hu, a, e⟩ := p
  have nb : ¬ B L := fun z => c.dm L z hD
  exact ⟨.list acc, s', hd acc s' hI, fun b o q n => e b o q n (fun z => by rw [z, hD] at q; cases q), a, .lst (cut_of hL nb) (DDs.mono (cut_mono fun b z => .inl z) _ _ hu)⟩
theorem wp_lc_list (gi : GIn g vs) (h : WE T tl s ρ fun x s1 => ∃ ds, x = .list ds ∧ ∃ I : Nat → List PyData → T.S → Prop, I 0 [] s1 ∧
      (∀ (i : Nat) d acc s', ds[i]? = some d → I i acc s' → LcT T g tt te vs ρ d acc s' (I (i + 1))) ∧ ∀ acc s', I ds.length acc s' → Φ (.list acc) s') :
    WE T (tLc (iSeq K tl) g tt te vs) s ρ Φ := fun A0 H0 B σ H c Q k => .inl <|
  h A0 H0 B σ H c _ fun v H1 x s1 ⟨ds, ex, I, h0, hs, hd⟩ e a d => by
    subst ex
    cases d with
    | @lst p xs _ ha hx =>
      obtain ⟨ha1, ha2⟩ := cut_get ha
      have c1 := c.step e a
      have nf : ¬ T.F p := fun z => ha2 (c.fb p z)
      refine ⟨p, rfl, ⟨xs, SqL.of ha1⟩, fun L hL => lc_list (K := K) (a := p) (xs := xs) (LcI T B H1 L I) ⟨[], [], s1, h0, upd_same, .nil, T.loc s1 H1 _ (fun b o _ q => same_new hL b o q) c1.at_, fun b o q _ z => (by rw [upd_ne z]; exact q)⟩ (fun i H' _ q => ?_) (fun i y H' hi q => ?_) fun H' q => ?_⟩
      · obtain ⟨_, _, _, _, _, _, _, e'⟩ := q
        exact SqL.of (e' p _ ha1 nf fun z => by rw [z, hL] at ha1; cases ha1)
      · obtain ⟨d, e1, e2⟩ := hx.get' hi
        exact lc_turn gi c1 hL q e2 fun acc s' hI => hs i d acc s' e1 hI
      · rw [hx.len] at q
        obtain ⟨x, s', f, e', a', d'⟩ := lc_end c1 hL q hd
        exact k _ H' x s' f (e.trans e') a' d'
theorem wp_lc_tup (gi : GIn g vs) (h : WE T tl s ρ fun x s1 => ∃ ds, x = .tuple ds ∧ ∃ I : Nat → List PyData → T.S → Prop, I 0 [] s1 ∧
      (∀ (i : Nat) d acc s', ds[i]? = some d → I i acc s' → LcT T g tt te vs ρ d acc s' (I (i + 1))) ∧ ∀ acc s', I ds.length acc s' → Φ (.list acc) s') :
    WE T (tLc (iSeq K tl) g tt te vs) s ρ Φ := fun A0 H0 B σ H c Q k => .inr <|
  h A0 H0 B σ H c _ fun v H1 x s1 ⟨ds, ex, I, h0, hs, hd⟩ e a d => by
    subst ex
    cases d with
    | @tup p xs _ ha hx =>
      obtain ⟨ha1, ha2⟩ := cut_get ha
      have c1 := c.step e a
      have nf : ¬ T.F p := fun z => ha2 (c.fb p z)
      refine ⟨p, rfl, ⟨xs, SqT.of ha1⟩, fun L hL => lc_tup (K := K) (a := p) (xs := xs) (LcI T B H1 L I) ⟨[], [], s1, h0, upd_same, .nil, T.loc s1 H1 _ (fun b o _ q => same_new hL b o q) c1.at_, fun b o q _ z => (by rw [upd_ne z]; exact q)⟩ (fun i H' _ q => ?_) (fun i y H' hi q => ?_) fun H' q => ?_⟩
      · obtain ⟨_, _, _, _, _, _, _, e'⟩ := q
        exact SqT.of (e' p _ ha1 nf fun z => by rw [z, hL] at ha1; cases ha1)
      · obtain ⟨d, e1, e2⟩ := hx.get' hi
        exact lc_turn gi c1 hL q e2 fun acc s' hI => hs i d acc s' e1 hI
      · rw [hx.len] at q
        obtain ⟨x, s', f, e', a', d'⟩ := lc_end c1 hL q hd
        exact k _ H' x s' f (e.trans e') a' d'
theorem wp_lc_range {ta : TA} (gi : GIn g vs) (h : WA T ta s ρ fun xs s1 => ∃ n : Int, xs = [.int n] ∧ n ≤ 1000000 ∧ -1000000 ≤ n ∧ ∃ I : Nat → List PyData → T.S → Prop, I 0 [] s1 ∧
      (∀ (i : Nat) acc s', (i : Int) < n → I i acc s' → LcT T g tt te vs ρ (.int (i : Int)) acc s' (I (i + 1))) ∧ ∀ acc s', I n.toNat acc s' → Φ (.list acc) s') :
    WE T (tLc (iRng1 ta) g tt te vs) s ρ Φ := fun A0 H0 B σ H c Q k =>
  h A0 H0 B σ H c _ fun v H1 x s1 ⟨n, ex, hm, hm2, I, h0, hs, hd⟩ e a d => by
    subst ex
    cases d with
    | cons d1 d2 =>
      cases d1
      cases d2
      have c1 := c.step e a
      refine ⟨n, rfl, by omega, by omega, fun L hL => lc_range (lo := 0) (n := n.toNat) (LcI T B H1 L I) ⟨[], [], s1, h0, upd_same, .nil, T.loc s1 H1 _ (fun b o _ q => same_new hL b o q) c1.at_, fun b o q _ z => (by rw [upd_ne z]; exact q)⟩ (fun i H' hi q => ?_) fun H' q => ?_⟩
      · have e0 : (0 : Int) + (i : Int) = (i : Int) := Int.zero_add _
        rw [e0]
        exact lc_turn gi c1 hL q (.int _) fun acc s' hI => hs i acc s' (by omega) hI
      · obtain ⟨x, s', f, e', a', d'⟩ := lc_end c1 hL q hd
        exact k _ H' x s' f (e.trans e') a' d'
end
end
end J

namespace J
open PySem L2

/-! ### rules for several kinds at once -/
def rAddU (K : PySem.W.Frag) : R2 := fun x y H Q => rI0 (fun i j => .int (i + j)) x y H Q ∨ (∃ i j, x = .str i ∧ y = .str j ∧ i.length + j.length ≤ sizeLine ∧ Q (.str (i ++ j)) H) ∨ rCat x y H Q ∨ rCatA K x y H Q
theorem op_addU {X : Cx} : OpR X (binaryOp .Add) (rAddU X.K) := op_add.or (op_add_str.or (op_cat.or op_catA))
def rSubI : R2 := rI0 fun i j => .int (i - j)
theorem op_subU {X : Cx} : OpR X (binaryOp .Sub) rSubI := op_sub
def rMulU (K : PySem.W.Frag) : R2 := fun x y H Q => rI CMul (fun i j => .int (i * j)) x y H Q ∨ rRep x y H Q
theorem op_mulU {X : Cx} : OpR X (binaryOp .Mult) (rMulU X.K) := op_mul.or op_rep
def rDivI : R2 := rI CDiv fun i j => .int (i / j)
theorem op_divU {X : Cx} : OpR X (binaryOp .FloorDiv) rDivI := op_fdiv
def rModI : R2 := rI (fun _ j => 0 < j) fun i j => .int (i % j)
theorem op_modU {X : Cx} : OpR X (binaryOp .Mod) rModI := op_mod
def rLtI : R2 := rI0 fun i j => .bl (decide (i < j))
def rLeI : R2 := rI0 fun i j => .bl (decide (i ≤ j))
def rGtI : R2 := rI0 fun i j => .bl (decide (j < i))
def rGeI : R2 := rI0 fun i j => .bl (decide (j ≤ i))
theorem op_ltU {X : Cx} : OpR X (compareOp .Lt) rLtI := op_lt
theorem op_leU {X : Cx} : OpR X (compareOp .LtE) rLeI := op_le
theorem op_gtU {X : Cx} : OpR X (compareOp .Gt) rGtI := op_gt
theorem op_geU {X : Cx} : OpR X (compareOp .GtE) rGeI := op_ge
def rInU (K : PySem.W.Frag) : R2 := fun x y H Q => rIn K false x y H Q ∨ (∃ i j, x = .str i ∧ y = .str j ∧ Q (.bl (!(Builtin.Str.occurrences j i 0 j.length 1).isEmpty)) H)
theorem op_inU {X : Cx} : OpR X (compareOp .In) (rInU X.K) := op_in_seq.or op_in_str
def rNiU (K : PySem.W.Frag) : R2 := fun x y H Q => rIn K true x y H Q ∨ (∃ i j, x = .str i ∧ y = .str j ∧ Q (.bl (!(!(Builtin.Str.occurrences j i 0 j.length 1).isEmpty))) H)
theorem op_niU {X : Cx} : OpR X (compareOp .NotIn) (rNiU X.K) := op_notIn_seq.or op_notIn_str
def rNegI : V → Hp → VK → Prop := rU fun i => .int (-i)
theorem op_negU {X : Cx} : UnR X (unaryOp .USub) rNegI := un_neg
def rIsN : R2 := fun x y H Q => y = .non ∧ Q (.bl (decide (x = .non))) H
def rNotN : R2 := fun x y H Q => y = .non ∧ Q (.bl (!decide (x = .non))) H
theorem op_isNU {X : Cx} : OpR X (compareOp .Is) rIsN := op_isN
theorem op_notNU {X : Cx} : OpR X (compareOp .IsNot) rNotN := op_notN
def rSlU (K : PySem.W.Frag) : V → Option Int → Option Int → Hp → VK → Prop := fun x lo hi H Q => rSlL K x lo hi H Q ∨ rSlA K x lo hi H Q ∨ rSlS x lo hi H Q
theorem sl_U {X : Cx} : SlR X (rSlU X.K) := sl_list.or (sl_tupA.or sl_str)
def rLenU (K : PySem.W.Frag) : List V → Hp → VK → Prop := fun xs H Q => (∃ p ys, xs = [.ref p] ∧ (SqL K H p ys ∨ SqT K H p ys) ∧ Q (.int ys.length) H) ∨ (∃ z, xs = [.str z] ∧ z.length ≤ sizeLine ∧ Q (.int z.length) H)
theorem call_lenU {X : Cx} : CallR X (.builtin "len") (rLenU X.K) := call_len_seq.or call_len_str
def rInt : List V → Hp → VK → Prop := fun xs H Q => (∃ i, xs = [.int i] ∧ Q (.int i) H) ∨ ∃ k, xs = [.bl k] ∧ Q (.int (if k then 1 else 0)) H
theorem call_intU {X : Cx} : CallR X (.type "int") rInt := call_int1
def rTupU (K : PySem.W.Frag) : List V → Hp → VK → Prop := fun xs H Q => ∃ p ys, xs = [.ref p] ∧ ((SqL K H p ys ∧ ∀ l, H l = none → Q (.ref l) (upd H l (.tup ys))) ∨ (SqT K H p ys ∧ Q (.ref p) H))
theorem call_tupU {X : Cx} : CallR X (.type "tuple") (rTupU X.K) := call_tuple_of
def rLstU (K : PySem.W.Frag) : List V → Hp → VK → Prop := fun xs H Q => ∃ p ys, xs = [.ref p] ∧ (SqL K H p ys ∨ SqT K H p ys) ∧ ∀ l, H l = none → Q (.ref l) (upd H l (.lst ys))
theorem call_lstU {X : Cx} : CallR X (.type "list") (rLstU X.K) := call_list_of

/-! ### over data -/
section
variable {K : PySem.W.Frag} {Φ : PyData → Prop}
theorem rd_addI {i j : Int} (q : Φ (.int (i + j))) : RD (rAddU K) (.int i) (.int j) Φ := fun B H v w Q dm d1 d2 k => by
  cases d1; cases d2
  exact .inl ⟨i, j, rfl, rfl, k _ H _ q (Same.refl H) (.int _)⟩
theorem rd_addS {i j : Str} (h : i.length + j.length ≤ 100000) (q : Φ (.str (i ++ j))) : RD (rAddU K) (.str i) (.str j) Φ := fun B H v w Q dm d1 d2 k => by
  cases d1; cases d2
  exact .inr (.inl ⟨i, j, rfl, rfl, Nat.le_trans h (by decide), k _ H _ q (Same.refl H) (.str _)⟩)
theorem rd_addL {xs ys : List PyData} (h : xs.length + ys.length ≤ 100000) (q : Φ (.list (xs ++ ys))) : RD (rAddU K) (.list xs) (.list ys) Φ := fun B H v w Q dm d1 d2 k => by
  cases d1 with
  | @lst a us _ ha hs =>
    cases d2 with
    | @lst b ws _ hb ht =>
      refine .inr (.inr (.inl ⟨a, b, us, ws, rfl, rfl, (cut_get ha).1, (cut_get hb).1, Nat.le_trans (by rw [hs.len, ht.len]; exact h) (by decide), fun p hp => ?_⟩))
      have sm := (Fr.of (F := B) (same_new (o := .lst (us ++ ws)) hp)).cut (B := B) fun _ z => z
      exact k _ _ _ q (same_new hp) (.lst (new_cut dm hp) ((DDs.mono sm _ _ hs).app (DDs.mono sm _ _ ht)))
theorem rd_addT {xs ys : List PyData} (h : xs.length + ys.length ≤ 100000) (q : Φ (.tuple (xs ++ ys))) : RD (rAddU K) (.tuple xs) (.tuple ys) Φ := fun B H v w Q dm d1 d2 k => by
  cases d1 with
  | @tup a us _ ha hs =>
    cases d2 with
    | @tup b ws _ hb ht =>
      refine .inr (.inr (.inr ⟨a, b, us, ws, rfl, rfl, SqT.of (cut_get ha).1, SqT.of (cut_get hb).1, Nat.le_trans (by rw [hs.len, ht.len]; exact h) (by decide), fun e => ?_, fun _ e => ?_, fun _ _ p hp => ?_⟩))
      · subst e
        cases hs
        exact k _ H _ q (Same.refl H) (.tup hb ht)
      · subst e
        cases ht
        rw [List.append_nil] at q
        exact k _ H _ q (Same.refl H) (.tup ha hs)
      · have sm := (Fr.of (F := B) (same_new (o := .tup (us ++ ws)) hp)).cut (B := B) fun _ z => z
        exact k _ _ _ q (same_new hp) (.tup (new_cut dm hp) ((DDs.mono sm _ _ hs).app (DDs.mono sm _ _ ht)))
theorem rd_sub {i j : Int} (q : Φ (.int (i - j))) : RD rSubI (.int i) (.int j) Φ := fun B H v w Q dm d1 d2 k => by
  cases d1; cases d2
  exact ⟨i, j, rfl, rfl, k _ H _ q (Same.refl H) (.int _)⟩
theorem rd_mulI {i j : Int} (h : CMul i j) (q : Φ (.int (i * j))) : RD (rMulU K) (.int i) (.int j) Φ := fun B H v w Q dm d1 d2 k => by
  cases d1; cases d2
  exact .inl ⟨i, j, rfl, rfl, h, k _ H _ q (Same.refl H) (.int _)⟩
theorem DDs.rep {H : Hp} {us : List V} {xs : List PyData} (h : DDs H us xs) : ∀ n : Nat, DDs H (List.replicate n us).flatten (List.replicate n xs).flatten
  | 0 => .nil
  | n + 1 => by
    rw [List.replicate_succ, List.replicate_succ, List.flatten_cons, List.flatten_cons]
    exact h.app (DDs.rep h n)
theorem rd_mulL {xs : List PyData} {j : Int} (h0 : j ≤ 10000 ∧ -10000 ≤ j) (h : xs.length * j.toNat ≤ 100000) (q : Φ (.list (List.replicate j.toNat xs).flatten)) : RD (rMulU K) (.list xs) (.int j) Φ := fun B H v w Q dm d1 d2 k => by
  cases d2
  cases d1 with
  | @lst a us _ ha hs =>
    refine .inr ⟨a, j, us, rfl, rfl, (cut_get ha).1, by omega, by omega, Nat.le_trans (by rw [hs.len]; exact h) (by decide), fun p hp => ?_⟩
    have sm := (Fr.of (F := B) (same_new (o := .lst (List.replicate j.toNat us).flatten) hp)).cut (B := B) fun _ z => z
    exact k _ _ _ q (same_new hp) (.lst (new_cut dm hp) ((DDs.mono sm _ _ hs).rep _))
theorem rd_div {i j : Int} (h : 0 < j ∧ j < 1073741824) (q : Φ (.int (i / j))) : RD rDivI (.int i) (.int j) Φ := fun B H v w Q dm d1 d2 k => by
  cases d1; cases d2
  exact ⟨i, j, rfl, rfl, h, k _ H _ q (Same.refl H) (.int _)⟩
theorem rd_mod {i j : Int} (h : 0 < j) (q : Φ (.int (i % j))) : RD rModI (.int i) (.int j) Φ := fun B H v w Q dm d1 d2 k => by
  cases d1; cases d2
  exact ⟨i, j, rfl, rfl, h, k _ H _ q (Same.refl H) (.int _)⟩
theorem rd_lt {i j : Int} (q : Φ (.bool (decide (i < j)))) : RD rLtI (.int i) (.int j) Φ := fun B H v w Q dm d1 d2 k => by
  cases d1; cases d2
  exact ⟨i, j, rfl, rfl, k _ H _ q (Same.refl H) (.bl _)⟩
theorem rd_le {i j : Int} (q : Φ (.bool (decide (i ≤ j)))) : RD rLeI (.int i) (.int j) Φ := fun B H v w Q dm d1 d2 k => by
  cases d1; cases d2
  exact ⟨i, j, rfl, rfl, k _ H _ q (Same.refl H) (.bl _)⟩
theorem rd_gt {i j : Int} (q : Φ (.bool (decide (j < i)))) : RD rGtI (.int i) (.int j) Φ := fun B H v w Q dm d1 d2 k => by
  cases d1; cases d2
  exact ⟨i, j, rfl, rfl, k _ H _ q (Same.refl H) (.bl _)⟩
theorem rd_ge {i j : Int} (q : Φ (.bool (decide (j ≤ i)))) : RD rGeI (.int i) (.int j) Φ := fun B H v w Q dm d1 d2 k => by
  cases d1; cases d2
  exact ⟨i, j, rfl, rfl, k _ H _ q (Same.refl H) (.bl _)⟩
theorem rd_eq {x y : PyData} (h1 : SeqAt.shaped x = true) (h2 : SeqAt.shaped y = true) (q : Φ (.bool (PyData.eqv x y))) : RD (rEqD K) x y Φ := fun B H v w Q dm d1 d2 k =>
  ⟨x, y, DD.dp _ _ (DD.mono cut_same _ _ d1), DD.dp _ _ (DD.mono cut_same _ _ d2), h1, h2, k _ H _ q (Same.refl H) (.bl _)⟩
theorem rd_ne {x y : PyData} (h1 : SeqAt.shaped x = true) (h2 : SeqAt.shaped y = true) (q : Φ (.bool (!PyData.eqv x y))) : RD (rNeD K) x y Φ := fun B H v w Q dm d1 d2 k =>
  ⟨x, y, DD.dp _ _ (DD.mono cut_same _ _ d1), DD.dp _ _ (DD.mono cut_same _ _ d2), h1, h2, k _ H _ q (Same.refl H) (.bl _)⟩
def isNoneD : PyData → Bool
  | .none => true
  | _ => false
theorem DD.isN {H : Hp} {v : V} {x : PyData} (h : DD H v x) : decide (v = .non) = isNoneD x := by cases h <;> simp [isNoneD]
theorem rd_isN {x : PyData} (q : Φ (.bool (isNoneD x))) : RD rIsN x .none Φ := fun B H v w Q dm d1 d2 k => by
  cases d2
  exact ⟨rfl, by rw [d1.isN]; exact k _ H _ q (Same.refl H) (.bl _)⟩
theorem rd_notN {x : PyData} (q : Φ (.bool (!isNoneD x))) : RD rNotN x .none Φ := fun B H v w Q dm d1 d2 k => by
  cases d2
  exact ⟨rfl, by rw [d1.isN]; exact k _ H _ q (Same.refl H) (.bl _)⟩
theorem rd_ixL {xs : List PyData} {i : Int} {d : PyData} (h : atI xs i = some d) (q : Φ d) : RD (rIx K) (.list xs) (.int i) Φ := fun B H v w Q dm d1 d2 k => by
  cases d2
  cases d1 with
  | lst ha hs =>
    obtain ⟨u, h1, h2⟩ := hs.at_ h
    exact .inl ⟨_, _, i, u, rfl, rfl, SqL.of (cut_get ha).1, h1, k _ H _ q (Same.refl H) h2⟩
theorem rd_ixT {xs : List PyData} {i : Int} {d : PyData} (h : atI xs i = some d) (q : Φ d) : RD (rIx K) (.tuple xs) (.int i) Φ := fun B H v w Q dm d1 d2 k => by
  cases d2
  cases d1 with
  | tup ha hs =>
    obtain ⟨u, h1, h2⟩ := hs.at_ h
    exact .inr (.inl ⟨_, _, i, u, rfl, rfl, SqT.of (cut_get ha).1, h1, k _ H _ q (Same.refl H) h2⟩)
theorem rd_ixS {z : Str} {i : Int} {c : Nat} (hl : z.length ≤ 100000) (h : atI z.cps.toList i = some c) (q : Φ (.str ⟨#[c]⟩)) : RD (rIx K) (.str z) (.int i) Φ := fun B H v w Q dm d1 d2 k => by
  cases d2
  cases d1
  exact .inr (.inr ⟨z, i, c, rfl, rfl, Nat.le_trans hl (by decide), h, k _ H _ q (Same.refl H) (.str _)⟩)
theorem rd_ix0 {d : PyData} {xs : List PyData} (q : Φ d) : RD (rIx K) (.tuple (d :: xs)) (.int 0) Φ := rd_ixT (atI_nat (j := 0) rfl) q
theorem rd_ix1 {d e : PyData} {xs : List PyData} (q : Φ e) : RD (rIx K) (.tuple (d :: e :: xs)) (.int 1) Φ := rd_ixT (atI_nat (j := 1) rfl) q
theorem rd_ix2 {d e f : PyData} {xs : List PyData} (q : Φ f) : RD (rIx K) (.tuple (d :: e :: f :: xs)) (.int 2) Φ := rd_ixT (atI_nat (j := 2) rfl) q
theorem rd_ix3 {d e f g : PyData} {xs : List PyData} (q : Φ g) : RD (rIx K) (.tuple (d :: e :: f :: g :: xs)) (.int 3) Φ := rd_ixT (atI_nat (j := 3) rfl) q
theorem r1_neg {i : Int} (q : Φ (.int (-i))) : R1 rNegI (.int i) Φ := fun B H v Q dm d1 k => by
  cases d1
  exact ⟨i, rfl, k _ H _ q (Same.refl H) (.int _)⟩
/-- in a list or tuple of ints, of texts -/
theorem in_ints {H : Hp} {i : Int} : ∀ {ns : List Int} {vs : List V}, DDs H vs (ns.map PyData.int) → vs.all flatV = true ∧ inV (.int i) vs = decide (i ∈ ns)
  | [], _, h => by cases h; exact ⟨rfl, by simp [inV]⟩
  | n :: r, _, h => by
    cases h with
    | cons h1 h2 =>
      cases h1
      obtain ⟨e1, e2⟩ := in_ints (i := i) h2
      refine ⟨by rw [List.all_cons, e1]; rfl, ?_⟩
      unfold inV at e2 ⊢
      rw [List.any_cons, e2]
      show ((n == i) || decide (i ∈ r)) = decide (i ∈ n :: r)
      by_cases q : n = i
      · subst q; simp
      · have q2 : ¬ i = n := fun z => q z.symm
        simp [q, q2]
theorem rd_inIT {i : Int} {ns : List Int} {xs : List PyData} (e : xs = ns.map PyData.int) (q : Φ (.bool (decide (i ∈ ns)))) : RD (rInU K) (.int i) (.tuple xs) Φ := fun B H v w Q dm d1 d2 k => by
  subst e
  cases d1
  cases d2 with
  | tup ha hs =>
    obtain ⟨e1, e2⟩ := in_ints (i := i) hs
    refine .inl ⟨_, _, rfl, .inr (SqT.of (cut_get ha).1), rfl, e1, ?_⟩
    rw [e2]
    exact k _ H _ q (Same.refl H) (.bl _)
theorem rd_niIT {i : Int} {ns : List Int} {xs : List PyData} (e : xs = ns.map PyData.int) (q : Φ (.bool (!decide (i ∈ ns)))) : RD (rNiU K) (.int i) (.tuple xs) Φ := fun B H v w Q dm d1 d2 k => by
  subst e
  cases d1
  cases d2 with
  | tup ha hs =>
    obtain ⟨e1, e2⟩ := in_ints (i := i) hs
    refine .inl ⟨_, _, rfl, .inr (SqT.of (cut_get ha).1), rfl, e1, ?_⟩
    rw [e2]
    exact k _ H _ q (Same.refl H) (.bl _)
/-- slices -/
def cutD (xs : List PyData) (lo hi : Option Int) : List PyData := (xs.drop (HT.sIx xs.length 0 lo)).take (HT.sIx xs.length xs.length hi - HT.sIx xs.length 0 lo)
theorem DDs.cutV {H : Hp} {us : List V} {xs : List PyData} (h : DDs H us xs) (lo hi : Option Int) : DDs H (L2.cutV us lo hi) (cutD xs lo hi) := by
  unfold L2.cutV cutD
  rw [h.len]
  exact (h.drop _).take _
theorem rs_list {xs : List PyData} {lo hi : Option Int} (q : Φ (.list (cutD xs lo hi))) : RS (rSlU K) (.list xs) lo hi Φ := fun B H v Q dm d1 k => by
  cases d1 with
  | @lst a us _ ha hs =>
    refine .inl ⟨a, us, rfl, SqL.of (cut_get ha).1, fun p hp => ?_⟩
    have sm := (Fr.of (F := B) (same_new (o := .lst (L2.cutV us lo hi)) hp)).cut (B := B) fun _ z => z
    exact k _ _ _ q (same_new hp) (.lst (new_cut dm hp) ((DDs.mono sm _ _ hs).cutV lo hi))
theorem rs_tup {xs : List PyData} {lo hi : Option Int} (q : Φ (.tuple (cutD xs lo hi))) : RS (rSlU K) (.tuple xs) lo hi Φ := fun B H v Q dm d1 k => by
  cases d1 with
  | @tup a us _ ha hs =>
    refine .inr (.inl ⟨a, us, rfl, SqT.of (cut_get ha).1, fun ⟨e1, e2⟩ => ?_, fun _ p hp => ?_⟩)
    · have e : cutD xs lo hi = xs := by
        unfold cutD
        rw [← hs.len, e1, e2, List.drop_zero, Nat.sub_zero, hs.len, List.take_length]
      rw [e] at q
      exact k _ H _ q (Same.refl H) (.tup ha hs)
    · have sm := (Fr.of (F := B) (same_new (o := .tup (L2.cutV us lo hi)) hp)).cut (B := B) fun _ z => z
      exact k _ _ _ q (same_new hp) (.tup (new_cut dm hp) ((DDs.mono sm _ _ hs).cutV lo hi))
theorem rs_str {z : Str} {lo hi : Option Int} (hl : z.length ≤ 100000) (q : Φ (.str (cutS z lo hi))) : RS (rSlU K) (.str z) lo hi Φ := fun B H v Q dm d1 k => by
  cases d1
  exact .inr (.inr ⟨z, rfl, Nat.le_trans hl (by decide), k _ H _ q (Same.refl H) (.str _)⟩)
/-- built-in calls -/
theorem rc_lenL {xs : List PyData} (q : Φ (.int xs.length)) : RC (rLenU K) [.list xs] Φ := fun B H vs Q dm d k => by
  cases d with
  | cons d1 d2 =>
    cases d2
    cases d1 with
    | lst ha hs =>
      refine .inl ⟨_, _, rfl, .inl (SqL.of (cut_get ha).1), ?_⟩
      rw [hs.len]
      exact k _ H _ q (Same.refl H) (.int _)
theorem rc_lenT {xs : List PyData} (q : Φ (.int xs.length)) : RC (rLenU K) [.tuple xs] Φ := fun B H vs Q dm d k => by
  cases d with
  | cons d1 d2 =>
    cases d2
    cases d1 with
    | tup ha hs =>
      refine .inl ⟨_, _, rfl, .inr (SqT.of (cut_get ha).1), ?_⟩
      rw [hs.len]
      exact k _ H _ q (Same.refl H) (.int _)
theorem rc_lenS {z : Str} (hl : z.length ≤ 100000) (q : Φ (.int z.length)) : RC (rLenU K) [.str z] Φ := fun B H vs Q dm d k => by
  cases d with
  | cons d1 d2 =>
    cases d2
    cases d1
    exact .inr ⟨_, rfl, Nat.le_trans hl (by decide), k _ H _ q (Same.refl H) (.int _)⟩
theorem rc_intI {i : Int} (q : Φ (.int i)) : RC rInt [.int i] Φ := fun B H vs Q dm d k => by
  cases d with
  | cons d1 d2 =>
    cases d2
    cases d1
    exact .inl ⟨_, rfl, k _ H _ q (Same.refl H) (.int _)⟩
theorem rc_intB {b : Bool} (q : Φ (.int (if b then 1 else 0))) : RC rInt [.bool b] Φ := fun B H vs Q dm d k => by
  cases d with
  | cons d1 d2 =>
    cases d2
    cases d1
    exact .inr ⟨_, rfl, k _ H _ q (Same.refl H) (.int _)⟩
theorem rc_sum {ns : List Int} {xs : List PyData} (e : xs = ns.map PyData.int) (q : Φ (.int ns.sum)) : RC (rSum K) [.list xs] Φ := fun B H vs Q dm d k => by
  subst e
  cases d with
  | cons d1 d2 =>
    cases d2
    cases d1 with
    | lst ha hs =>
      rw [hs.of_ints] at ha
      exact ⟨_, ns, rfl, SqL.of (cut_get ha).1, k _ H _ q (Same.refl H) (.int _)⟩
theorem rc_max {ns : List Int} {xs : List PyData} (e : xs = ns.map PyData.int) (hl : 0 < ns.length) (q : ∀ m, m ∈ ns → (∀ y, y ∈ ns → y ≤ m) → Φ (.int m)) : RC (rMax K) [.list xs] Φ := fun B H vs Q dm d k => by
  subst e
  cases d with
  | cons d1 d2 =>
    cases d2
    cases d1 with
    | lst ha hs =>
      rw [hs.of_ints] at ha
      exact ⟨_, ns, rfl, SqL.of (cut_get ha).1, hl, fun m h1 h2 => k _ H _ (q m h1 h2) (Same.refl H) (.int _)⟩
theorem rc_all {bs : List Bool} {xs : List PyData} (e : xs = bs.map PyData.bool) (q : Φ (.bool (bs.all id))) : RC (rAll K) [.list xs] Φ := fun B H vs Q dm d k => by
  subst e
  cases d with
  | cons d1 d2 =>
    cases d2
    cases d1 with
    | lst ha hs =>
      rw [hs.of_bools] at ha
      exact ⟨_, bs, rfl, SqL.of (cut_get ha).1, k _ H _ q (Same.refl H) (.bl _)⟩
theorem rc_tupL {xs : List PyData} (q : Φ (.tuple xs)) : RC (rTupU K) [.list xs] Φ := fun B H vs Q dm d k => by
  cases d with
  | cons d1 d2 =>
    cases d2
    cases d1 with
    | @lst a us _ ha hs =>
      refine ⟨_, _, rfl, .inl ⟨SqL.of (cut_get ha).1, fun p hp => ?_⟩⟩
      have sm := (Fr.of (F := B) (same_new (o := .tup us) hp)).cut (B := B) fun _ z => z
      exact k _ _ _ q (same_new hp) (.tup (new_cut dm hp) (DDs.mono sm _ _ hs))
theorem rc_tupT {xs : List PyData} (q : Φ (.tuple xs)) : RC (rTupU K) [.tuple xs] Φ := fun B H vs Q dm d k => by
  cases d with
  | cons d1 d2 =>
    cases d2
    cases d1 with
    | tup ha hs => exact ⟨_, _, rfl, .inr ⟨SqT.of (cut_get ha).1, k _ H _ q (Same.refl H) (.tup ha hs)⟩⟩
theorem rc_lstL {xs : List PyData} (q : Φ (.list xs)) : RC (rLstU K) [.list xs] Φ := fun B H vs Q dm d k => by
  cases d with
  | cons d1 d2 =>
    cases d2
    cases d1 with
    | @lst a us _ ha hs =>
      refine ⟨_, _, rfl, .inl (SqL.of (cut_get ha).1), fun p hp => ?_⟩
      have sm := (Fr.of (F := B) (same_new (o := .lst us) hp)).cut (B := B) fun _ z => z
      exact k _ _ _ q (same_new hp) (.lst (new_cut dm hp) (DDs.mono sm _ _ hs))
theorem rc_lstT {xs : List PyData} (q : Φ (.list xs)) : RC (rLstU K) [.tuple xs] Φ := fun B H vs Q dm d k => by
  cases d with
  | cons d1 d2 =>
    cases d2
    cases d1 with
    | @tup a us _ ha hs =>
      refine ⟨_, _, rfl, .inr (SqT.of (cut_get ha).1), fun p hp => ?_⟩
      have sm := (Fr.of (F := B) (same_new (o := .lst us) hp)).cut (B := B) fun _ z => z
      exact k _ _ _ q (same_new hp) (.lst (new_cut dm hp) (DDs.mono sm _ _ hs))
end

/-! ### isinstance -/
def tyD : PyData → String
  | .none => "NoneType" | .bool _ => "bool" | .int _ => "int" | .str _ => "str" | .list _ => "list" | .tuple _ => "tuple" | .dict _ => "dict"
theorem DD.ty {K : PySem.W.Frag} {H : Hp} {v : V} {x : PyData} (h : DD H v x) : TyX K H v (.type (tyD x)) := by
  cases h with
  | non => exact .base .non
  | bl b => exact .base (.bl b)
  | int i => exact .base (.int i)
  | str x => exact .base (.str x)
  | lst ha _ => exact .base (.lst ha)
  | tup ha _ => exact .base (.tup ha)
/-- isinstance of data -/
def isiD (x : PyData) (n : String) : Bool := match x with
  | .bool _ => n == "bool" || n == "int"
  | x => n == tyD x
theorem TyX.mono {K : PySem.W.Frag} {H H' : Hp} (e : Same H H') {v : V} {x : PyData} (h : DD H v x) : TyX K H' v (.type (tyD x)) := DD.ty (DD.mono e _ _ h)
theorem kitB_is (x : PyData) (n : String) (hx : ∀ k, x ≠ .dict k) (hn : n = "tuple" ∨ n = "list" ∨ n = "int" ∨ n = "bool" ∨ n = "str") : kitB (tyD x) n = some (isiD x n) := by
  rcases hn with rfl | rfl | rfl | rfl | rfl <;> cases x <;> first | exact absurd rfl (hx _) | (simp only [tyD, isiD]; decide +kernel)
theorem DD.noDict {H : Hp} {v : V} {x : PyData} (h : DD H v x) (k : List (PyData × PyData)) : x ≠ .dict k := by
  rintro rfl
  cases h
section
variable {T : Sto} {s : T.S} {ρ : DEnv} {Φ : PyData → T.S → Prop} {te : TE} {K : PySem.W.Frag}
theorem wp_isi {n : String} (hn : n = "tuple" ∨ n = "list" ∨ n = "int" ∨ n = "bool" ∨ n = "str") (h : WE T te s ρ fun x s1 => Φ (.bool (isiD x n)) s1) : WE T (tCB (rIsi K) (tCons te (tCons (tC (.ty n)) tNil))) s ρ Φ := fun A0 H0 B σ H c Q k =>
  h A0 H0 B σ H c _ fun v H1 x s1 h1 e1 a1 d1 => ⟨v, .ty n, .type (tyD x), .type n, isiD x n, rfl, .ty n, TyX.mono cut_same d1, kit_ty (kitB_is x n d1.noDict hn), k _ H1 _ s1 h1 e1 a1 (.bl _)⟩
end

/-! ### promises over data -/
abbrev Pre := List PyData → (PyData → Prop) → Prop
/-- a def of data -/
def spD (P : Pre) : Sp := fun vs H Q _ => ∃ (B : Addr → Prop) (ds : List PyData) (Ψ : PyData → Prop), (∀ a, B a → H a ≠ none) ∧ DDs (cut B H) vs ds ∧ P ds Ψ ∧ ∀ v H' x, Ψ x → Same H H' → DD (cut B H') v x → Q v H'
section
variable {T : Sto} {s : T.S} {ρ : DEnv} {Φ : PyData → T.S → Prop} {ta : TA}
theorem wp_callD {P : Pre} {E : XK} (h : WA T ta s ρ fun xs s1 => P xs fun x => Φ x s1) : WE T (tCall (spD P) [] E ta) s ρ Φ := fun A0 H0 B σ H c Q k =>
  h A0 H0 B σ H c _ fun vs H1 xs s1 h1 e1 a1 d1 => ⟨B, xs, _, (c.step e1 a1).dm, by rw [List.append_nil]; exact d1, h1, fun v H' x hx e d => k v H' x s1 hx (e1.trans (Fr.of e)) (T.loc s1 H1 H' (fun a o _ q => e a o q) a1) d⟩
end
/-- the box of draws -/
def BoxAt (b l : Addr) (H : Hp) : Prop := ∃ (ns : List Int) (z : Int), H b = some (.lst [.ref l, .int z]) ∧ H l = some (.lst (ns.map V.int))
@[reducible] def bxS (b l : Addr) : Sto := ⟨Unit, fun a => a = b ∨ a = l, fun _ H => BoxAt b l H, fun _ H H' e ⟨ns, z, h1, h2⟩ => ⟨ns, z, e b _ (.inl rfl) h1, e l _ (.inr rfl) h2⟩, fun _ H a ⟨ns, z, h1, h2⟩ f => by
  rcases f with rfl | rfl
  · rw [h1]; exact fun z => nomatch z
  · rw [h2]; exact (fun z => nomatch z), fun _ _ _ => False, fun _ _ _ => False⟩
/-- a def that is handed the box first, then data -/
def spB (P : Pre) : Sp := fun vs H Q _ => ∃ (b l : Addr) (us : List V) (B : Addr → Prop) (ds : List PyData) (Ψ : PyData → Prop), vs = .ref b :: us ∧ B b ∧ B l ∧ BoxAt b l H ∧ (∀ a, B a → H a ≠ none) ∧ DDs (cut B H) us ds ∧ P ds Ψ ∧
  ∀ v H' x, Ψ x → Fr (fun a => a = b ∨ a = l) H H' → BoxAt b l H' → DD (cut B H') v x → Q v H'
section
variable {b l : Addr} {s : (bxS b l).S} {ρ : DEnv} {Φ : PyData → (bxS b l).S → Prop} {ta : TA}
theorem wp_callB {P : Pre} {E : XK} {i : Nat} (hi : ρ[i]? = some (some (.v (.ref b)))) (h : WA (bxS b l) ta s ρ fun xs s1 => P xs fun x => Φ x s1) : WE (bxS b l) (tCall (spB P) [] E (tCons (tVar i) ta)) s ρ Φ := fun A0 H0 B σ H c Q k =>
  ⟨.ref b, join_some (c.sl i _ hi), h A0 H0 B σ H c _ fun vs H1 xs s1 h1 e1 a1 d1 => ⟨b, l, vs, B, xs, _, by rw [List.append_nil], c.fb b (.inl rfl), c.fb l (.inr rfl), a1, (c.step e1 a1).dm, d1, h1, fun v H' x hx e a d => k v H' x s1 hx (e1.trans e) a d⟩⟩
end

/-! ### a def of the text -/
def init (N : List Str) (ds : List PyData) : DEnv := ds.map (fun d => some (.d d)) ++ List.replicate (N.length - ds.length) none
theorem start_get {N : List Str} {vs : List V} {i : Nat} {v : V} (h : vs[i]? = some v) : (L2.start N vs)[i]? = some (some v) := by
  have hi := (List.getElem?_eq_some_iff.mp h).1
  unfold L2.start
  rw [List.getElem?_append_left (by rw [List.length_map]; exact hi), List.getElem?_map, h]
  rfl
theorem init_get {N : List Str} {ds : List PyData} {i : Nat} {w : W} (h : (init N ds)[i]? = some (some w)) : ∃ d, ds[i]? = some d ∧ w = .d d := by
  unfold init at h
  by_cases hi : i < ds.length
  · rw [List.getElem?_append_left (by rw [List.length_map]; exact hi), List.getElem?_map] at h
    cases e : ds[i]? with
    | none => rw [e] at h; cases h
    | some d => rw [e] at h; cases h; exact ⟨d, rfl, rfl⟩
  · rw [List.getElem?_append_right (by rw [List.length_map]; omega), List.getElem?_replicate] at h
    split at h <;> cases h
theorem cxt_start {N : List Str} {vs : List V} {ds : List PyData} {B : Addr → Prop} {H : Hp} (dm : ∀ a, B a → H a ≠ none) (d : DDs (cut B H) vs ds) : Cxt uS B H B (L2.start N vs) H () (init N ds) := by
  refine ⟨fun a z => z.elim, dm, trivial, ?_, fun i w q => ?_, Fr.refl, fun a z => z, dm, fun a z => .inl z, fun i j xs ys p h1 _ => ?_, fun _ _ _ _ _ z => z.elim⟩
  · unfold L2.start init
    rw [List.length_append, List.length_append, List.length_map, List.length_map, List.length_replicate, List.length_replicate, d.len]
  · obtain ⟨x, h1, rfl⟩ := init_get q
    obtain ⟨v, h2, h3⟩ := d.get h1
    exact ⟨v, by rw [start_get h2]; rfl, h3⟩
  · obtain ⟨x, _, h⟩ := init_get h1
    cases h
theorem fnD {P : Program} {w : World} {K : PySem.W.Frag} {mg : Str → Option Value} {base : Heap} {x qual : Str} {st : Stmt} {f : Addr} {fd : FuncData} {N ps : List Str} {k : Nat} {Pr : Pre} {t : TS} (F : Fun K x qual st f fd) (S : FnScope N ps (defScope st))
    (len : ∀ ds Ψ, Pr ds Ψ → ds.length = ps.length)
    (hb : ∀ (cdv : Value) (A : Around) (outer : List PySem.Env) (s : Shared) (H : Hp) (E : XK), Room k (A.deeper (PyProof.Rows.envOfC qual (defScope st) s.heap.objs.size f cdv)) → PSs (cxOf CX0 P w K mg base N qual (defScope st) f cdv A outer s H E).nox (defBody st) t)
    (hw : ∀ ds Ψ, Pr ds Ψ → WS uS t () (init N ds) (fun x _ => Ψ x) (fun _ _ => Ψ .none)) : FnOk P w K mg base CX0 (k + 1) f fd ps (spD Pr) := by
  refine F.ok S (fun vs H Q E h => ?_) (fun cdv A outer s H vs Q E hr h => ?_)
  · obtain ⟨B, ds, Ψ, _, d, p, _⟩ := h
    rw [d.len]
    exact len ds Ψ p
  · obtain ⟨B, ds, Ψ, dm, d, p, q⟩ := h
    refine ⟨t, hb cdv A outer s H E hr, ?_⟩
    refine hw ds Ψ p B H B _ H (cxt_start dm d) _ (fun v H' y s' hy e _ d' => q v H' y hy e.same d') fun B' σ' H' s' ρ' hn c => q .non H' .none hn c.fr.same .non
end J

namespace J
open PySem L2

/-! ### a def that is called by its name -/
def Cal (P : Program) (w : World) (K : PySem.W.Frag) (mg : Str → Option Value) (base : Heap) (k : Nat) (x : Str) (ps : List Str) (sp : Sp) : Prop :=
  ∃ (f : Addr) (fd : FuncData), mg x = some (.ref f) ∧ PySem.W.keepIn K (.ref f) = true ∧ Binds K fd ps [] ∧ FnOk P w K mg base CX0 k f fd ps sp
section
variable {X : Cx} {k : Nat} {ps : List Str} {sp : Sp} {x : Str} {p pos : Pos} {e : Expr} {es : List Expr} {t : TA}
theorem pe_callC (h : Cal X.prog X.w X.K X.mg X.base k x ps sp) (hr : Room k X.A) (hg : Gl X x) (ha : PA X (e :: es) t) (hdb : (x == ("__debug__" : Str)) = false := by decide) (he : starEach (e :: es) X.env = (false, eval e X.env) :: starEach es X.env := by rfl)
    (hpl : (backTo pos (starEach es X.env)).any (·.1) = false := by rfl) : PE X (.Call (.Name x p) (e :: es) [] pos) (tCall sp [] E0 t) := by
  obtain ⟨f, fd, hm, hk, hb, F⟩ := h
  exact pe_call F hr hg hm hk hb .nil pass0 ha hdb he hpl
end
section
variable {X : Cx} {k : Nat} {ps : List Str} {sp : Sp} {x : Str} {p pos : Pos}
theorem pe_callC0 (h : Cal X.prog X.w X.K X.mg X.base k x ps sp) (hr : Room k X.A) (hg : Gl X x) (hdb : (x == ("__debug__" : Str)) = false := by decide) : PE X (.Call (.Name x p) [] [] pos) (tCall sp [] E0 tNil) := by
  obtain ⟨f, fd, hm, hk, hb, F⟩ := h
  exact pe_call0 F hr hg hm hk hb .nil pass0 hdb
end
/-- the built-in names -/
structure Blt (mg : Str → Option Value) : Prop where
  range : mg "range" = none
  isinstance : mg "isinstance" = none
  len : mg "len" = none
  int : mg "int" = none
  bool : mg "bool" = none
  str : mg "str" = none
  tuple : mg "tuple" = none
  list : mg "list" = none
  sum : mg "sum" = none
  max : mg "max" = none
  min : mg "min" = none
  all : mg "all" = none
  sorted : mg "sorted" = none
  enumerate : mg "enumerate" = none
  ValueError : mg "ValueError" = none

/-! ### a op b op c -/
section
variable {T : Sto} {s : T.S} {ρ : DEnv} {Φ : PyData → T.S → Prop} {ta tb tc : TE}
theorem wp_chain {r r' : R2} (h : WE T ta s ρ fun x s1 => WE T tb s1 ρ fun y s2 => RD r x y fun z => ∃ b, z = .bool b ∧ if b = true then WE T tc s2 ρ fun w s3 => RD r' y w fun z' => Φ z' s3 else Φ (.bool false) s2) : WE T (tChain r r' ta tb tc) s ρ Φ := fun A0 H0 B σ H c Q k =>
  h A0 H0 B σ H c _ fun v H1 x s1 h1 e1 a1 d1 => h1 A0 H0 B σ H1 (c.step e1 a1) _ fun u H2 y s2 h2 e2 a2 d2 =>
    h2 B H2 v u _ ((c.step e1 a1).step e2 a2).dm (DD.mono (e2.cut c.fb) _ _ d1) d2 fun z H3 zd ⟨b, ez, q⟩ e3 d3 => by
      subst ez
      cases d3
      refine ⟨b, rfl, ?_⟩
      have a3 : T.At s2 H3 := T.loc s2 H2 H3 (fun a o _ h => e3 a o h) a2
      have f3 : Fr T.F H H3 := (e1.trans e2).trans (Fr.of e3)
      cases b with
      | false => exact k _ H3 _ s2 q f3 a3 (.bl false)
      | true =>
        refine (show WE T tc s2 ρ _ from q) A0 H0 B σ H3 (c.step f3 a3) _ fun w H4 x4 s4 h4 e4 a4 d4 => ?_
        have g4 : Fr T.F H2 H4 := (Fr.of e3).trans e4
        refine h4 B H4 u w Q ((c.step f3 a3).step e4 a4).dm (DD.mono (g4.cut c.fb) _ _ d2) d4 fun z5 H5 x5 h5 e5 d5 => ?_
        exact k z5 H5 x5 s4 h5 ((f3.trans e4).trans (Fr.of e5)) (T.loc s4 H4 H5 (fun a o _ h => e5 a o h) a4) d5
end

/-! ### d.get(k, x) of a written dict -/
def IsKD (K : PySem.W.Frag) (w : World) (a : Addr) : Prop := (a == sysModules) = false ∧ ∃ es n, K.lookup a = some ⟨.type "dict", none, .dict es n, #[]⟩ ∧ PySem.W.KeysLit w.params es.toList
def tKGet2 (K : PySem.W.Frag) (w : World) (td ty tx : TE) : TE := fun σ H Q => td σ H fun x H1 => ∃ a, x = .ref a ∧ IsKD K w a ∧ ty σ H1 fun y H2 => tx σ H2 fun z H3 => ∃ s o, y = .str s ∧ PySem.W.nsIn K a s = some o ∧
  ((∃ u v, o = some u ∧ RelV v u ∧ Q v H3) ∨ (o = none ∧ Q z H3))
theorem pe_kget2 {X : Cx} {o e f : Expr} {apos cpos : Pos} {td ty tx : TE} (ho : PE X o td) (he : PE X e ty) (hf : PE X f tx) (m : M2 X o "get" apos e f cpos) : PE X (.Call (.Attribute o "get" apos) [e, f] [] cpos) (tKGet2 X.K X.w td ty tx) := by
  refine ⟨fun pins s σ H Q I h => ?_⟩
  refine PySem.wpAny_Call_method m.base m.few m.line PySem.F.plainAttrs_dict PySem.F.slot_dict_get PySem.F.type_dict_get (thn (ho.run pins s σ H _ I h) fun u s1 ⟨x, H1, I1, rx, a, ex, ⟨hs, es, n, hl, hk⟩, q1⟩ => ?_)
  subst ex
  obtain rfl : u = Value.ref a := rx
  have hm1 := PySem.W.mapOf_K (prog := X.prog) (w := X.w) I1.kIn hl hk
  refine ⟨hm1.typeIs, fun b q => ?_, ?_⟩
  · cases q
    exact ⟨_, I1.kIn _ _ hl, rfl⟩
  rw [m.trees]
  refine PySem.Calls.callWith_builtin rfl (PySem.Calls.evalArgs_plain (PySem.Calls.spliced_cons (thn (he.run pins s1 σ H1 _ I1 q1) fun iv s2 ⟨y, H2, I2, ry, q2⟩ =>
    PySem.Calls.spliced_cons (thn (hf.run pins s2 σ H2 _ I2 q2) fun fv s3 ⟨z, H3, I3, rz, sx, ov, ey, hn, q3⟩ => PySem.Calls.spliced_nil ?_))))
  subst ey
  obtain ⟨t, rfl⟩ := (show ∃ t, iv = Value.str sx t from ry)
  have hm := PySem.W.mapOf_K (prog := X.prog) (w := X.w) I3.kIn hl hk
  refine PySem.call_meetsIn PySem.F.slot_dict_get hm.typeIs PySem.F.entry_dict_get (PySem.F.args_dict_get_3 _ _ _) (PySem.meets_dict_get_default (PySem.strKind X.prog X.w) a (PySem.strKind_is X.prog X.w sx t) hs fv) ⟨_, hm, ?_⟩
  rw [PySem.W.find_K hl hn]
  rcases q3 with ⟨u, v, rfl, ru, q3⟩ | ⟨rfl, q3⟩
  · exact ⟨v, H3, I3.tok _, ru, q3⟩
  · exact ⟨z, H3, I3.tok _, rz, q3⟩
/-- a written dict of ints by texts: what it holds -/
structure KTab (K : PySem.W.Frag) (w : World) (a : Addr) (f : Str → Option Int) (D : Str → Prop) : Prop where
  is : IsKD K w a
  yes : ∀ s i, D s → f s = some i → ∃ t, PySem.W.nsIn K a s = some (some (.int i t))
  no : ∀ s, D s → f s = none → PySem.W.nsIn K a s = some none
section
variable {T : Sto} {s : T.S} {ρ : DEnv} {Φ : PyData → T.S → Prop} {ty tx : TE} {K : PySem.W.Frag} {w : World} {a : Addr} {f : Str → Option Int} {D : Str → Prop}
theorem wp_kget2 (kt : KTab K w a f D) (h : WE T ty s ρ fun y s1 => WE T tx s1 ρ fun z s2 => ∃ x j, y = .str x ∧ D x ∧ z = .int j ∧ Φ (.int ((f x).getD j)) s2) : WE T (tKGet2 K w (tC (.ref a)) ty tx) s ρ Φ := fun A0 H0 B σ H c Q k =>
  ⟨a, rfl, kt.is, h A0 H0 B σ H c _ fun v H1 y s1 h1 e1 a1 d1 => h1 A0 H0 B σ H1 (c.step e1 a1) _ fun u H2 z s2 ⟨x, j, ey, hx, ez, q⟩ e2 a2 d2 => by
    subst ey ez
    cases d1
    cases d2
    cases e : f x with
    | none =>
      rw [e] at q
      exact ⟨x, none, rfl, kt.no x hx e, .inr ⟨rfl, k _ H2 _ s2 q (e1.trans e2) a2 (.int _)⟩⟩
    | some i =>
      rw [e] at q
      obtain ⟨t, ht⟩ := kt.yes x i hx e
      exact ⟨x, _, rfl, ht, .inl ⟨_, .int i, rfl, ⟨t, rfl⟩, k _ H2 _ s2 q (e1.trans e2) a2 (.int _)⟩⟩⟩
end

theorem pe_globI {X : Cx} {x : Str} {n : Int} {pos : Pos} (hg : Gl X x) (hm : ∃ t, X.mg x = some (.int n t)) (hd : (x == ("__debug__" : Str)) = false := by decide) : PE X (.Name x pos) (tC (.int n)) := by
  obtain ⟨t, h⟩ := hm
  exact pe_glob hg h ⟨t, rfl⟩ hd
theorem pe_globS {X : Cx} {x : Str} {n : Str} {pos : Pos} (hg : Gl X x) (hm : ∃ t, X.mg x = some (.str n t)) (hd : (x == ("__debug__" : Str)) = false := by decide) : PE X (.Name x pos) (tC (.str n)) := by
  obtain ⟨t, h⟩ := hm
  exact pe_glob hg h ⟨t, rfl⟩ hd
theorem cal_zero {P : Program} {w : World} {K : PySem.W.Frag} {mg : Str → Option Value} {base : Heap} {k : Nat} {x : Str} {ps : List Str} {sp : Sp} {f : Addr} {fd : FuncData} (kp : PySem.W.keepIn K (.ref f) = true) (m : mg x = some (.ref f)) (B : Binds K fd ps []) (z : ∀ vs H Q E, ¬ sp vs H Q E) :
    Cal P w K mg base k x ps sp := ⟨f, fd, m, kp, B, ⟨fun vs H Q E h => absurd h (z vs H Q E), fun A outer s H args us vs Q E _ _ _ _ h => absurd h (z vs H Q E)⟩⟩
theorem zeroD {Pr : Pre} (h : ∀ ds Ψ, ¬ Pr ds Ψ) : ∀ vs H Q E, ¬ spD Pr vs H Q E := fun vs H Q E ⟨_, ds, Ψ, _, _, p, _⟩ => h ds Ψ p
theorem zeroB {Pr : Pre} (h : ∀ ds Ψ, ¬ Pr ds Ψ) : ∀ vs H Q E, ¬ spB Pr vs H Q E := fun vs H Q E ⟨_, _, _, _, ds, Ψ, _, _, _, _, _, _, p, _⟩ => h ds Ψ p
/-- a def that is handed the box -/
def initB (b : Addr) (N : List Str) (ds : List PyData) : DEnv := some (.v (.ref b)) :: init N.tail ds
theorem cxt_startB {N : List Str} {x : Str} {vs : List V} {ds : List PyData} {B : Addr → Prop} {H : Hp} {b l : Addr} (dm : ∀ a, B a → H a ≠ none) (d : DDs (cut B H) vs ds) (hb : B b) (hl : B l) (ha : BoxAt b l H) :
    Cxt (bxS b l) B H B (L2.start (x :: N) (.ref b :: vs)) H () (initB b (x :: N) ds) := by
  have c := cxt_start (N := N) dm d
  have e : L2.start (x :: N) (.ref b :: vs) = some (.ref b) :: L2.start N vs := by
    unfold L2.start
    simp only [List.map_cons, List.cons_append, List.length_cons, Nat.add_sub_add_right]
  rw [e]
  unfold initB
  refine ⟨fun a z => z.elim (fun z => by rw [z]; exact hb) fun z => (by rw [z]; exact hl), dm, ha, by rw [List.length_cons, List.length_cons, List.tail_cons]; exact congrArg (· + 1) c.ln, fun i w q => ?_, Fr.refl, fun a z => z, dm, fun a z => .inl z, fun i j xs ys p h1 _ => ?_, fun _ _ _ _ _ z => z.elim⟩
  · cases i with
    | zero =>
      cases q
      rfl
    | succ i =>
      obtain ⟨x, h1, rfl⟩ := init_get (N := N) (by simpa using q)
      obtain ⟨v, h2, h3⟩ := d.get h1
      exact ⟨v, by rw [List.getElem?_cons_succ, start_get h2]; rfl, h3⟩
  · cases i with
    | zero => cases h1
    | succ i =>
      obtain ⟨x, _, h⟩ := init_get (N := N) (by simpa using h1)
      cases h
theorem fnB {P : Program} {w : World} {K : PySem.W.Frag} {mg : Str → Option Value} {base : Heap} {x qual : Str} {st : Stmt} {f : Addr} {fd : FuncData} {N ps : List Str} {y : Str} {k : Nat} {Pr : Pre} {t : TS} (F : Fun K x qual st f fd) (S : FnScope (y :: N) ps (defScope st))
    (len : ∀ ds Ψ, Pr ds Ψ → ds.length + 1 = ps.length)
    (hb : ∀ (cdv : Value) (A : Around) (outer : List PySem.Env) (s : Shared) (H : Hp) (E : XK), Room k (A.deeper (PyProof.Rows.envOfC qual (defScope st) s.heap.objs.size f cdv)) → PSs (cxOf CX0 P w K mg base (y :: N) qual (defScope st) f cdv A outer s H E).nox (defBody st) t)
    (hw : ∀ b l ds Ψ, Pr ds Ψ → WS (bxS b l) t () (initB b (y :: N) ds) (fun x _ => Ψ x) (fun _ _ => Ψ .none)) : FnOk P w K mg base CX0 (k + 1) f fd ps (spB Pr) := by
  refine F.ok S (fun vs H Q E h => ?_) (fun cdv A outer s H vs Q E hr h => ?_)
  · obtain ⟨b, l, us, B, ds, Ψ, rfl, _, _, _, _, d, p, _⟩ := h
    rw [List.length_cons, d.len]
    exact len ds Ψ p
  · obtain ⟨b, l, us, B, ds, Ψ, rfl, hb1, hl1, ha, dm, d, p, q⟩ := h
    refine ⟨t, hb cdv A outer s H E hr, ?_⟩
    refine hw b l ds Ψ p B H B _ H (cxt_startB dm d hb1 hl1 ha) _ (fun v H' y s' hy e a d' => q v H' y hy e a d') fun B' σ' H' s' ρ' hn c => q .non H' .none hn c.fr c.at_ .non
end J

namespace J
open PySem L2
/-! ### conditions -/
inductive Cn where
  | look (i : Int)
  | nt (c : Cn)
  | pr (b : Bool) (x y : Cn)
abbrev wLook : Str := "look"
abbrev wNot : Str := "not"
abbrev wAnd : Str := "and"
abbrev wOr : Str := "or"
def Cn.D : Cn → PyData
  | .look i => .tuple [.str wLook, .int i]
  | .nt c => .tuple [.str wNot, c.D]
  | .pr true x y => .tuple [.str wAnd, x.D, y.D]
  | .pr false x y => .tuple [.str wOr, x.D, y.D]
def Cn.deep : Cn → Nat
  | .look _ => 0
  | .nt c => c.deep + 1
  | .pr _ x y => max x.deep y.deep + 1
def Cn.looks : Cn → Nat
  | .look _ => 1
  | .nt c => c.looks
  | .pr _ x y => x.looks + y.looks
def Cn.pairs : Cn → Nat
  | .look _ => 0
  | .nt c => c.pairs
  | .pr _ x y => x.pairs + y.pairs + 1
/-- all things are numbers from 0 to 7 -/
def Cn.ok : Cn → Prop
  | .look i => 0 ≤ i ∧ i < 8
  | .nt c => c.ok
  | .pr _ x y => x.ok ∧ y.ok
theorem Cn.looks_pos : ∀ c : Cn, 0 < c.looks
  | .look _ => Nat.one_pos
  | .nt c => c.looks_pos
  | .pr _ x y => Nat.add_pos_left x.looks_pos _
/-! words -/
theorem ne_nl : (wNot == wLook) = false := by decide +kernel
theorem ne_al : (wAnd == wLook) = false := by decide +kernel
theorem ne_ol : (wOr == wLook) = false := by decide +kernel
theorem ne_an : (wAnd == wNot) = false := by decide +kernel
theorem ne_on : (wOr == wNot) = false := by decide +kernel
theorem ne_oa : (wOr == wAnd) = false := by decide +kernel
theorem ne_ao : (wAnd == wOr) = false := by decide +kernel
theorem ne_ln : (wLook == wNot) = false := by decide +kernel
theorem ne_la : (wLook == wAnd) = false := by decide +kernel
theorem ne_lo : (wLook == wOr) = false := by decide +kernel
theorem ne_na : (wNot == wAnd) = false := by decide +kernel
theorem ne_no : (wNot == wOr) = false := by decide +kernel
def wOf : Bool → Str
  | true => wAnd
  | false => wOr
theorem D_pr (b : Bool) (x y : Cn) : (Cn.pr b x y).D = .tuple [.str (wOf b), x.D, y.D] := by cases b <;> rfl
theorem wOf_nl (b : Bool) : (wOf b == wLook) = false := by cases b <;> decide +kernel
theorem wOf_nn (b : Bool) : (wOf b == wNot) = false := by cases b <;> decide +kernel
theorem wOf_and (b : Bool) : (wOf b == wAnd) = b := by cases b <;> decide +kernel
theorem wOf_or (b : Bool) : (wOf b == wOr) = !b := by cases b <;> decide +kernel
theorem wOf_so (b : Bool) : PyData.strOk (wOf b) = true := by cases b <;> decide +kernel
/-! ### depth of data -/
theorem shaped_of {d : PyData} (h1 : d.canLay0 = true) (h2 : d.depth ≤ 64) : SeqAt.shaped d = true := by
  unfold SeqAt.shaped
  rw [h1, decide_eq_true h2]
  rfl
theorem so_l : PyData.strOk wLook = true := by decide +kernel
theorem so_n : PyData.strOk wNot = true := by decide +kernel
theorem so_a : PyData.strOk wAnd = true := by decide +kernel
theorem so_o : PyData.strOk wOr = true := by decide +kernel
theorem Cn.lay : ∀ c : Cn, c.D.canLay0 = true
  | .look _ => by simp [Cn.D, PyData.canLay0, PyData.canLayAll0, so_l]
  | .nt c => by simp [Cn.D, PyData.canLay0, PyData.canLayAll0, c.lay, so_n]
  | .pr true x y => by simp [Cn.D, PyData.canLay0, PyData.canLayAll0, x.lay, y.lay, so_a]
  | .pr false x y => by simp [Cn.D, PyData.canLay0, PyData.canLayAll0, x.lay, y.lay, so_o]
theorem Cn.depth_le : ∀ c : Cn, c.D.depth ≤ c.deep + 2
  | .look _ => by simp [Cn.D, PyData.depth, PyData.depthAll]
  | .nt c => by have := c.depth_le; simp [Cn.D, PyData.depth, PyData.depthAll, Cn.deep]; omega
  | .pr true x y => by have := x.depth_le; have := y.depth_le; simp [Cn.D, PyData.depth, PyData.depthAll, Cn.deep]; omega
  | .pr false x y => by have := x.depth_le; have := y.depth_le; simp [Cn.D, PyData.depth, PyData.depthAll, Cn.deep]; omega
theorem Cn.shaped {c : Cn} (h : c.deep ≤ 60) : SeqAt.shaped c.D = true := shaped_of c.lay (by have := c.depth_le; omega)

/-! ### comprehensions whose elements are a function of the items -/
section
variable {T : Sto} {s : T.S} {ρ : DEnv} {te tl : TE} {tt : TT} {K : PySem.W.Frag} {vs : List Nat} {Φ : PyData → T.S → Prop} {g : TG}
theorem take_snoc {α : Type} {l : List α} {i : Nat} {x : α} (h : l[i]? = some x) : l.take (i + 1) = l.take i ++ [x] := by
  rw [List.take_add_one, h]
  rfl
/-- what one item gives: whether it is taken, and as what -/
def LcF (T : Sto) (g : TG) (tt : TT) (te : TE) (vs : List Nat) (ρ : DEnv) (s : T.S) (p : PyData → Bool) (f : PyData → PyData) (d : PyData) : Prop :=
  WG T g d s (wipeE ρ vs) fun ρ2 s2 => WT T tt s2 ρ2 fun b s3 => b = p d ∧ s3 = s ∧ (b = true → WE T te s3 ρ2 fun y s4 => y = f d ∧ s4 = s)
theorem lc_of_F {ds : List PyData} {p : PyData → Bool} {f : PyData → PyData} (hl : ds.length < 100000) (h : ∀ d ∈ ds, LcF T g tt te vs ρ s p f d) : ∀ (i : Nat) d acc s', ds[i]? = some d → (acc = ((ds.take i).filter p).map f ∧ s' = s) →
    LcT T g tt te vs ρ d acc s' fun acc s' => acc = ((ds.take (i + 1)).filter p).map f ∧ s' = s := fun i d acc s' hi ⟨e, e'⟩ => by
  subst e'
  have hm : d ∈ ds := List.mem_of_getElem? hi
  have hlen : acc.length < 100000 := by
    rw [e, List.length_map]
    have h1 := List.length_filter_le p (ds.take i)
    have h2 : (ds.take i).length ≤ ds.length := by rw [List.length_take]; omega
    omega
  intro A0 H0 B σ H c v hv Q k
  refine h d hm A0 H0 B σ H c v hv Q fun σ' ρ' hw c' => k σ' ρ' ?_ c'
  intro A0 H0 B σ H c Q k
  refine hw A0 H0 B σ H c Q fun b H' s3 ⟨hb, hs, he⟩ e1 a1 => k b H' s3 ?_ e1 a1
  rw [take_snoc hi, List.filter_append, List.map_append, ← e]
  cases b with
  | false =>
    show acc = acc ++ List.map f (List.filter p [d]) ∧ s3 = s'
    refine ⟨?_, hs⟩
    rw [List.filter_cons, if_neg (by rw [← hb]; decide)]
    show acc = acc ++ []
    rw [List.append_nil]
  | true =>
    show WE T te s3 ρ' _
    refine WE.mono (he rfl) fun y s4 ⟨ey, es⟩ => ⟨hlen, ?_, es⟩
    rw [List.filter_cons, if_pos hb.symm, ey]
    rfl
theorem wp_lcF_list (gi : GIn g vs) (h : WE T tl s ρ fun x s1 => ∃ ds, x = .list ds ∧ ds.length < 100000 ∧ ∃ p f, (∀ d ∈ ds, LcF T g tt te vs ρ s1 p f d) ∧ Φ (.list ((ds.filter p).map f)) s1) : WE T (tLc (iSeq K tl) g tt te vs) s ρ Φ :=
  wp_lc_list gi (WE.mono h fun x s1 ⟨ds, e, hl, p, f, hs, q⟩ => ⟨ds, e, fun i acc s' => acc = ((ds.take i).filter p).map f ∧ s' = s1, ⟨rfl, rfl⟩, lc_of_F hl hs, fun acc s' ⟨e1, e2⟩ => by rw [e1, e2, List.take_length]; exact q⟩)
theorem wp_lcF_tup (gi : GIn g vs) (h : WE T tl s ρ fun x s1 => ∃ ds, x = .tuple ds ∧ ds.length < 100000 ∧ ∃ p f, (∀ d ∈ ds, LcF T g tt te vs ρ s1 p f d) ∧ Φ (.list ((ds.filter p).map f)) s1) : WE T (tLc (iSeq K tl) g tt te vs) s ρ Φ :=
  wp_lc_tup gi (WE.mono h fun x s1 ⟨ds, e, hl, p, f, hs, q⟩ => ⟨ds, e, fun i acc s' => acc = ((ds.take i).filter p).map f ∧ s' = s1, ⟨rfl, rfl⟩, lc_of_F hl hs, fun acc s' ⟨e1, e2⟩ => by rw [e1, e2, List.take_length]; exact q⟩)
/-- every item is taken -/
theorem lcF_all {f : PyData → PyData} {d : PyData} (h : WG T g d s (wipeE ρ vs) fun ρ2 s2 => s2 = s ∧ WE T te s2 ρ2 fun y s4 => y = f d ∧ s4 = s) : LcF T g tYes te vs ρ s (fun _ => true) f d := by
  intro A0 H0 B σ H c v hv Q k
  refine h A0 H0 B σ H c v hv Q fun σ' ρ' hw c' => k σ' ρ' ?_ c'
  exact wt_yes ⟨rfl, hw.1, fun _ => hw.2⟩
theorem filter_true {α : Type} (l : List α) : l.filter (fun _ => true) = l := List.filter_eq_self.mpr fun _ _ => rfl
theorem wp_lcM_list (gi : GIn g vs) (h : WE T tl s ρ fun x s1 => ∃ ds, x = .list ds ∧ ds.length < 100000 ∧ ∃ f, (∀ d ∈ ds, WG T g d s1 (wipeE ρ vs) fun ρ2 s2 => s2 = s1 ∧ WE T te s2 ρ2 fun y s4 => y = f d ∧ s4 = s1) ∧ Φ (.list (ds.map f)) s1) : WE T (tLc (iSeq K tl) g tYes te vs) s ρ Φ :=
  wp_lcF_list gi (WE.mono h fun x s1 ⟨ds, e, hl, f, hs, q⟩ => ⟨ds, e, hl, fun _ => true, f, fun d hd => lcF_all (hs d hd), by rw [filter_true]; exact q⟩)
theorem wp_lcM_tup (gi : GIn g vs) (h : WE T tl s ρ fun x s1 => ∃ ds, x = .tuple ds ∧ ds.length < 100000 ∧ ∃ f, (∀ d ∈ ds, WG T g d s1 (wipeE ρ vs) fun ρ2 s2 => s2 = s1 ∧ WE T te s2 ρ2 fun y s4 => y = f d ∧ s4 = s1) ∧ Φ (.list (ds.map f)) s1) : WE T (tLc (iSeq K tl) g tYes te vs) s ρ Φ :=
  wp_lcF_tup gi (WE.mono h fun x s1 ⟨ds, e, hl, f, hs, q⟩ => ⟨ds, e, hl, fun _ => true, f, fun d hd => lcF_all (hs d hd), by rw [filter_true]; exact q⟩)
theorem wp_lcM_range {ta : TA} (gi : GIn g vs) (h : WA T ta s ρ fun xs s1 => ∃ n : Nat, xs = [.int (n : Int)] ∧ n ≤ 10000 ∧ ∃ f : Nat → PyData, (∀ i, i < n → WG T g (.int (i : Int)) s1 (wipeE ρ vs) fun ρ2 s2 => s2 = s1 ∧ WE T te s2 ρ2 fun y s4 => y = f i ∧ s4 = s1) ∧ Φ (.list ((List.range n).map f)) s1) :
    WE T (tLc (iRng1 ta) g tYes te vs) s ρ Φ := wp_lc_range gi fun A0 H0 B σ H c Q k => h A0 H0 B σ H c Q fun us H' xs s1 ⟨n, e, hn, f, hs, q⟩ => k us H' xs s1 ⟨(n : Int), e, by omega, by omega, fun i acc s' => acc = (List.range i).map f ∧ s' = s1, ⟨rfl, rfl⟩, fun i acc s' hi ⟨e1, e2⟩ => by
      subst e2
      have hlen : acc.length < 100000 := by rw [e1, List.length_map, List.length_range]; omega
      intro A0 H0 B σ H c v hv Q k
      refine hs i (by omega) A0 H0 B σ H c v hv Q fun σ' ρ' hw c' => k σ' ρ' ?_ c'
      refine wt_yes ?_
      show WE T te s' ρ' _
      obtain ⟨_, hw⟩ := hw
      refine WE.mono hw fun y s4 ⟨ey, es⟩ => ⟨hlen, ?_, es⟩
      rw [List.range_succ, List.map_append, e1, ey]
      rfl, fun acc s' ⟨e1, e2⟩ => by
      rw [e1, e2]
      exact q⟩
end
section
variable {T : Sto} {s : T.S} {ρ : DEnv} {te tl : TE} {tt : TT} {K : PySem.W.Frag} {vs : List Nat} {Φ : PyData → T.S → Prop} {g : TG}
theorem wp_lcF_range {ta : TA} (gi : GIn g vs) (h : WA T ta s ρ fun xs s1 => ∃ n : Nat, xs = [.int (n : Int)] ∧ n ≤ 10000 ∧ ∃ (p : PyData → Bool) (f : PyData → PyData), (∀ i : Nat, i < n → LcF T g tt te vs ρ s1 p f (.int (i : Int))) ∧ Φ (.list ((((List.range n).map fun i : Nat => PyData.int (i : Int)).filter p).map f)) s1) :
    WE T (tLc (iRng1 ta) g tt te vs) s ρ Φ := wp_lc_range gi fun A0 H0 B σ H c Q k => h A0 H0 B σ H c Q fun us H' xs s1 ⟨n, e, hn, p, f, hs, q⟩ => k us H' xs s1 ⟨(n : Int), e, by omega, by omega, fun i acc s' => i ≤ n ∧ (acc = ((((List.range n).map fun i : Nat => PyData.int (i : Int)).take i).filter p).map f ∧ s' = s1), ⟨Nat.zero_le _, rfl, rfl⟩, fun i acc s' hi ⟨_, e1⟩ => by
      have hi' : i < n := by omega
      have hget : ((List.range n).map fun i : Nat => PyData.int (i : Int))[i]? = some (.int (i : Int)) := by
        rw [List.getElem?_map, List.getElem?_range hi']
        rfl
      have t := lc_of_F (T := T) (g := g) (tt := tt) (te := te) (vs := vs) (ρ := ρ) (s := s1) (p := p) (f := f) (ds := (List.range n).map fun i : Nat => PyData.int (i : Int)) (by rw [List.length_map, List.length_range]; omega) (fun d hd => by
        obtain ⟨j, hj, rfl⟩ := List.mem_map.mp hd
        exact hs j (List.mem_range.mp hj)) i _ acc s' hget e1
      have hlen : i + 1 ≤ n := hi'
      intro A0 H0 B σ H c v hv Q k
      refine t A0 H0 B σ H c v hv Q fun σ' ρ' hw c' => k σ' ρ' ?_ c'
      intro A0 H0 B σ H c Q k
      refine hw A0 H0 B σ H c Q fun b H' s3 hb e1 a1 => k b H' s3 ?_ e1 a1
      cases b with
      | false => exact ⟨hlen, hb⟩
      | true => exact WE.mono (show WE T te s3 ρ' _ from hb) fun y s4 ⟨q1, q2⟩ => ⟨q1, hlen, q2⟩, fun acc s' ⟨_, e1, e2⟩ => by
      have hl : ((n : Int).toNat) = n := by omega
      have e3 : (((List.range n).map fun i : Nat => PyData.int (i : Int)).take (n : Int).toNat) = (List.range n).map fun i : Nat => PyData.int (i : Int) := by
        rw [hl]
        exact List.take_of_length_le (by rw [List.length_map, List.length_range]; exact Nat.le_refl _)
      rw [e3] at e1
      rw [e1, e2]
      exact q⟩
end
/-! ### comprehensions item by item -/
section
variable {T : Sto} {s : T.S} {ρ : DEnv} {te tl : TE} {tt : TT} {K : PySem.W.Frag} {vs : List Nat} {Φ : PyData → T.S → Prop} {g : TG}
def LcS (T : Sto) (g : TG) (tt : TT) (te : TE) (vs : List Nat) (ρ : DEnv) (Φ : PyData → T.S → Prop) : List PyData → List PyData → T.S → Prop
  | [], acc, s => Φ (.list acc) s
  | d :: ds, acc, s => acc.length < 100000 ∧ WG T g d s (wipeE ρ vs) fun ρ2 s2 => WT T tt s2 ρ2 fun b s3 => if b = true then WE T te s3 ρ2 fun y s4 => LcS T g tt te vs ρ Φ ds (acc ++ [y]) s4 else LcS T g tt te vs ρ Φ ds acc s3
theorem lcs_nil {acc : List PyData} (q : Φ (.list acc) s) : LcS T g tt te vs ρ Φ [] acc s := q
theorem lcs_cons {d : PyData} {ds acc : List PyData} (h1 : acc.length < 100000) (h : WG T g d s (wipeE ρ vs) fun ρ2 s2 => WT T tt s2 ρ2 fun b s3 => if b = true then WE T te s3 ρ2 fun y s4 => LcS T g tt te vs ρ Φ ds (acc ++ [y]) s4 else LcS T g tt te vs ρ Φ ds acc s3) :
    LcS T g tt te vs ρ Φ (d :: ds) acc s := ⟨h1, h⟩
theorem lcs_turn {ds : List PyData} : ∀ (i : Nat) d acc s', ds[i]? = some d → LcS T g tt te vs ρ Φ (ds.drop i) acc s' → LcT T g tt te vs ρ d acc s' (LcS T g tt te vs ρ Φ (ds.drop (i + 1))) := fun i d acc s' hi h => by
  have hl := (List.getElem?_eq_some_iff.mp hi).1
  rw [List.drop_eq_getElem_cons hl] at h
  have e : ds[i] = d := (List.getElem?_eq_some_iff.mp hi).2
  rw [e] at h
  obtain ⟨h1, h2⟩ := h
  intro A0 H0 B σ H c v hv Q k
  refine h2 A0 H0 B σ H c v hv Q fun σ' ρ' hw c' => k σ' ρ' ?_ c'
  intro A0 H0 B σ H c Q k
  refine hw A0 H0 B σ H c Q fun b H' s3 hb e1 a1 => k b H' s3 ?_ e1 a1
  cases b with
  | false => exact hb
  | true => exact WE.mono (show WE T te s3 ρ' _ from hb) fun y s4 q => ⟨h1, q⟩
theorem wp_lcS_tup (gi : GIn g vs) (h : WE T tl s ρ fun x s1 => ∃ ds, x = .tuple ds ∧ LcS T g tt te vs ρ Φ ds [] s1) : WE T (tLc (iSeq K tl) g tt te vs) s ρ Φ :=
  wp_lc_tup gi (WE.mono h fun x s1 ⟨ds, e, q⟩ => ⟨ds, e, fun i acc s => LcS T g tt te vs ρ Φ (ds.drop i) acc s, q, lcs_turn, fun acc s' q => by
    have q' : LcS T g tt te vs ρ Φ (ds.drop ds.length) acc s' := q
    rw [List.drop_length] at q'
    exact q'⟩)
theorem wp_lcS_list (gi : GIn g vs) (h : WE T tl s ρ fun x s1 => ∃ ds, x = .list ds ∧ LcS T g tt te vs ρ Φ ds [] s1) : WE T (tLc (iSeq K tl) g tt te vs) s ρ Φ :=
  wp_lc_list gi (WE.mono h fun x s1 ⟨ds, e, q⟩ => ⟨ds, e, fun i acc s => LcS T g tt te vs ρ Φ (ds.drop i) acc s, q, lcs_turn, fun acc s' q => by
    have q' : LcS T g tt te vs ρ Φ (ds.drop ds.length) acc s' := q
    rw [List.drop_length] at q'
    exact q'⟩)
end
theorem cutD_tail {d : PyData} {ds : List PyData} : cutD (d :: ds) (some 1) none = ds := by
  have e : HT.sIx (d :: ds).length 0 (some 1) = 1 := by
    have h := HT.sIx_nat (d :: ds).length 0 1
    have h2 : min 1 (d :: ds).length = 1 := by rw [List.length_cons]; omega
    rw [h2] at h
    exact h
  unfold cutD
  rw [e, HT.sIx_none]
  show List.take (ds.length + 1 - 1) ds = ds
  rw [Nat.add_sub_cancel, List.take_length]
theorem rs_tail {K : PySem.W.Frag} {Φ : PyData → Prop} {d : PyData} {ds : List PyData} (q : Φ (.tuple ds)) : RS (rSlU K) (.tuple (d :: ds)) (some 1) none Φ := rs_tup (by rw [cutD_tail]; exact q)
/-! ### texts told apart -/
section
variable {K : PySem.W.Frag} {Φ : PyData → Prop}
theorem shaped_str {a : Str} (h : PyData.strOk a = true) : SeqAt.shaped (.str a) = true := shaped_of (by simpa [PyData.canLay0] using h) (by simp [PyData.depth])
theorem rd_eqW {a b : Str} (ha : PyData.strOk a = true) (hb : PyData.strOk b = true) (q : Φ (.bool (a == b))) : RD (rEqD K) (.str a) (.str b) Φ := rd_eq (shaped_str ha) (shaped_str hb) q
theorem rd_neW {a b : Str} (ha : PyData.strOk a = true) (hb : PyData.strOk b = true) (q : Φ (.bool (!(a == b)))) : RD (rNeD K) (.str a) (.str b) Φ := rd_ne (shaped_str ha) (shaped_str hb) q
theorem rd_eqI {i j : Int} (q : Φ (.bool (decide (i = j)))) : RD (rEqD K) (.int i) (.int j) Φ := rd_eq rfl rfl (by
  show Φ (.bool (i == j))
  rw [show (i == j) = decide (i = j) from by rw [Bool.eq_iff_iff]; simp]
  exact q)
theorem rd_neI {i j : Int} (q : Φ (.bool (!decide (i = j)))) : RD (rNeD K) (.int i) (.int j) Φ := rd_ne rfl rfl (by
  show Φ (.bool (!(i == j)))
  rw [show (i == j) = decide (i = j) from by rw [Bool.eq_iff_iff]; simp]
  exact q)
theorem rd_neB {i j : Bool} (q : Φ (.bool (!(i == j)))) : RD (rNeD K) (.bool i) (.bool j) Φ := rd_ne (by cases i <;> rfl) (by cases j <;> rfl) q
theorem rd_eqB {i j : Bool} (q : Φ (.bool (i == j))) : RD (rEqD K) (.bool i) (.bool j) Φ := rd_eq (by cases i <;> rfl) (by cases j <;> rfl) q
end
theorem ifT {c : Bool} {A B : Prop} (h : c = true) (q : A) : if c = true then A else B := by rw [if_pos h]; exact q
theorem ifF {c : Bool} {A B : Prop} (h : c = false) (q : B) : if c = true then A else B := by rw [if_neg (by rw [h]; decide)]; exact q
theorem ifD {P : Prop} [Decidable P] {A B : Prop} (h1 : P → A) (h2 : ¬ P → B) : if decide P = true then A else B := by
  by_cases h : P
  · rw [if_pos (decide_eq_true h)]; exact h1 h
  · rw [if_neg (by rw [decide_eq_false h]; decide)]; exact h2 h
theorem ifND {P : Prop} [Decidable P] {A B : Prop} (h1 : ¬ P → A) (h2 : P → B) : if (!decide P) = true then A else B := by
  by_cases h : P
  · rw [if_neg (by rw [decide_eq_true h]; decide)]; exact h2 h
  · rw [if_pos (by rw [decide_eq_false h]; decide)]; exact h1 h
end J

namespace J
open PySem L2
/-! ### what conditions come to -/
def thingAt (ws : List Int) (i : Int) : Int := (ws[i.toNat]?).getD 0
/-- what ends an and, an or by its first side -/
def stops : Bool → Int
  | true => 0
  | false => 1
def Cn.val (ws : List Int) : Cn → Int
  | .look i => thingAt ws i
  | .nt c => 1 - c.val ws
  | .pr b x y => if x.val ws = stops b then x.val ws else y.val ws
def Cn.seen (ws : List Int) : Cn → List Int
  | .look i => [i]
  | .nt c => c.seen ws
  | .pr b x y => if x.val ws = stops b then x.seen ws else x.seen ws ++ y.seen ws
/-- eight worths -/
structure Ws (ws : List Int) : Prop where
  len : ws.length = 8
  bit : ∀ w ∈ ws, w = 0 ∨ w = 1
theorem Ws.at_ {ws : List Int} (h : Ws ws) {i : Int} (h0 : 0 ≤ i) (h1 : i < 8) : atI (ws.map PyData.int) i = some (.int (thingAt ws i)) ∧ (thingAt ws i = 0 ∨ thingAt ws i = 1) := by
  have hl : i.toNat < ws.length := by rw [h.len]; omega
  have e : ws[i.toNat]? = some ws[i.toNat] := List.getElem?_eq_getElem hl
  have e2 : thingAt ws i = ws[i.toNat] := by unfold thingAt; rw [e]; rfl
  refine ⟨?_, by rw [e2]; exact h.bit _ (List.getElem_mem hl)⟩
  have q : atI (ws.map PyData.int) ((i.toNat : Nat) : Int) = some (.int ws[i.toNat]) := atI_nat (by rw [List.getElem?_map, e]; rfl)
  rw [show ((i.toNat : Nat) : Int) = i from by omega] at q
  rw [q, e2]
theorem Cn.pr_stop {ws : List Int} {b : Bool} {x y : Cn} (h : x.val ws = stops b) : (Cn.pr b x y).val ws = x.val ws ∧ (Cn.pr b x y).seen ws = x.seen ws := by
  refine ⟨?_, ?_⟩
  · show (if x.val ws = stops b then x.val ws else y.val ws) = _
    rw [if_pos h]
  · show (if x.val ws = stops b then x.seen ws else x.seen ws ++ y.seen ws) = _
    rw [if_pos h]
theorem Cn.pr_go {ws : List Int} {b : Bool} {x y : Cn} (h : ¬ x.val ws = stops b) : (Cn.pr b x y).val ws = y.val ws ∧ (Cn.pr b x y).seen ws = x.seen ws ++ y.seen ws := by
  refine ⟨?_, ?_⟩
  · show (if x.val ws = stops b then x.val ws else y.val ws) = _
    rw [if_neg h]
  · show (if x.val ws = stops b then x.seen ws else x.seen ws ++ y.seen ws) = _
    rw [if_neg h]
theorem Cn.val_bit {ws : List Int} (h : Ws ws) : ∀ c : Cn, c.ok → c.val ws = 0 ∨ c.val ws = 1
  | .look i, ok => (h.at_ ok.1 ok.2).2
  | .nt c, ok => by
    have := c.val_bit h ok
    show 1 - c.val ws = 0 ∨ 1 - c.val ws = 1
    omega
  | .pr b x y, ok => by
    have h1 := x.val_bit h ok.1
    have h2 := y.val_bit h ok.2
    show (if x.val ws = stops b then x.val ws else y.val ws) = 0 ∨ (if x.val ws = stops b then x.val ws else y.val ws) = 1
    split
    · exact h1
    · exact h2
theorem Cn.seen_len (ws : List Int) : ∀ c : Cn, (c.seen ws).length ≤ c.looks
  | .look i => Nat.le_refl _
  | .nt c => c.seen_len ws
  | .pr b x y => by
    have h1 := x.seen_len ws
    have h2 := y.seen_len ws
    show (if x.val ws = stops b then x.seen ws else x.seen ws ++ y.seen ws).length ≤ x.looks + y.looks
    split
    · omega
    · rw [List.length_append]; omega

/-! ### a def that is handed a list of ints, last, and grows it -/
@[reducible] def lS (p : Addr) : Sto := ⟨List Int, fun a => a = p, fun ns H => H p = some (.lst (ns.map V.int)), fun _ H H' e h => e p _ rfl h, fun _ H a h f => by rw [f, h]; exact (fun z => nomatch z), fun _ _ _ => False, fun _ _ _ => False⟩
abbrev PreG := List PyData → List Int → (PyData → List Int → Prop) → Prop
def spG (P : PreG) : Sp := fun vs H Q _ => ∃ (p : Addr) (us : List V) (B : Addr → Prop) (ds : List PyData) (ns : List Int) (Ψ : PyData → List Int → Prop), vs = us ++ [.ref p] ∧ B p ∧ H p = some (.lst (ns.map V.int)) ∧ (∀ a, B a → H a ≠ none) ∧ DDs (cut B H) us ds ∧ P ds ns Ψ ∧
  ∀ v H' x ns', Ψ x ns' → Fr (fun a => a = p) H H' → H' p = some (.lst (ns'.map V.int)) → DD (cut B H') v x → Q v H'
theorem zeroG {Pr : PreG} (h : ∀ ds ns Ψ, ¬ Pr ds ns Ψ) : ∀ vs H Q E, ¬ spG Pr vs H Q E := fun vs H Q E ⟨_, _, _, ds, ns, Ψ, _, _, _, _, _, p, _⟩ => h ds ns Ψ p
section
variable {p : Addr} {s : List Int} {ρ : DEnv} {R : PyData → List Int → Prop} {N : DEnv → List Int → Prop} {te ta tb : TE} {Φ : PyData → List Int → Prop}
theorem ws_appL {K : PySem.W.Frag} {i : Nat} (hi : ρ[i]? = some (some (.v (.ref p)))) (h : WE (lS p) te s ρ fun x s1 => ∃ n, x = .int n ∧ s1.length < 100000 ∧ N ρ (s1 ++ [n])) : WS (lS p) (tDrop (tBM K "list" rAppend (tVar i) (tCons te tNil))) s ρ R N := fun A0 H0 B σ H c D r n => by
  have hv := join_some (c.sl i _ hi)
  have hH : H p = some (.lst (s.map V.int)) := c.at_
  refine ⟨_, hv, Or.inl ⟨rfl, _, SqL.of hH⟩, h A0 H0 B σ H c _ fun v H1 x s1 ⟨m, ex, hl, f⟩ e a d => ?_⟩
  subst ex
  cases d
  have hp : H1 p = some (.lst (s1.map V.int)) := a
  refine ⟨p, _, .int m, rfl, rfl, hp, Nat.lt_of_lt_of_le (by rw [List.length_map]; exact hl) (by decide), ?_⟩
  have fr : Fr (lS p).F H1 (upd H1 p (.lst (s1.map V.int ++ [.int m]))) := fun b o q z => by rw [upd_ne z]; exact q
  exact n B σ _ (s1 ++ [m]) ρ f ((c.step e a).step fr (by show upd _ _ _ p = _; rw [upd_same, List.map_append]; rfl))
theorem wp_callG {P : PreG} {E : XK} {i : Nat} (hi : ρ[i]? = some (some (.v (.ref p)))) (h : WE (lS p) ta s ρ fun x s1 => WE (lS p) tb s1 ρ fun y s2 => P [x, y] s2 fun z s3 => Φ z s3) : WE (lS p) (tCall (spG P) [] E (tCons ta (tCons tb (tCons (tVar i) tNil)))) s ρ Φ := fun A0 H0 B σ H c Q k =>
  h A0 H0 B σ H c _ fun v H1 x s1 h1 e1 a1 d1 => h1 A0 H0 B σ H1 (c.step e1 a1) _ fun u H2 y s2 h2 e2 a2 d2 =>
    ⟨_, join_some (c.sl i _ hi), ⟨p, [v, u], B, [x, y], s2, _, rfl, c.fb p rfl, a2, ((c.step e1 a1).step e2 a2).dm, .cons (DD.mono (e2.cut c.fb) _ _ d1) (.cons d2 .nil), h2, fun v H' z ns' hz e a d => k v H' z ns' hz ((e1.trans e2).trans e) a d⟩⟩
end
/-- such a call from a def that owns the list -/
theorem ws_callG {T : Sto} {s : T.S} {ρ : DEnv} {R : PyData → T.S → Prop} {N : DEnv → T.S → Prop} {ta tb : TE} {P : PreG} {E : XK} {i j : Nat} {ns : List Int} (hi : ρ[i]? = some (some (.own (ns.map PyData.int)))) (ij : i ≠ j)
    (h : WE T ta s ρ fun x s1 => WE T tb s1 ρ fun y s2 => P [x, y] ns fun z ns' => N ((ρ.set i (some (.own (ns'.map PyData.int)))).set j (some (.d z))) s2) : WS T (tAsg (tCall (spG P) [] E (tCons ta (tCons tb (tCons (tVar i) tNil)))) (gName j)) s ρ R N := fun A0 H0 B σ H c D r n => by
  obtain ⟨p, vs, h1, h2, h3, h5, h6, h7⟩ := c.sl i _ hi
  have hv := join_some h1
  have hvs := h7.of_ints
  subst hvs
  refine h A0 H0 B σ H c _ fun v H1 x s1 g1 e1 a1 d1 => g1 A0 H0 B σ H1 (c.step e1 a1) _ fun u H2 y s2 g2 e2 a2 d2 => ?_
  have c2 := (c.step e1 a1).step e2 a2
  have hp : H2 p = some (.lst (ns.map V.int)) := e2 p _ (e1 p _ h6 h3) h3
  refine ⟨_, hv, ⟨p, [v, u], B, [x, y], ns, _, rfl, h2, hp, c2.dm, .cons (DD.mono (e2.cut c.fb) _ _ d1) (.cons d2 .nil), g2, fun w H' z ns' hz e hp' d => ?_⟩⟩
  have hil : i < ρ.length := (List.getElem?_eq_some_iff.mp hi).1
  have sc : Same (cut B H2) (cut B H') := e.cut fun a z => by rw [z]; exact h2
  have c3 : Cxt T A0 H0 B σ H' s2 (ρ.set i (some (.own (ns'.map PyData.int)))) := by
    have iso : ∀ (k : Nat) ys, (ρ.set i (some (.own (ns'.map PyData.int))))[k]? = some (some (.own ys)) → ∃ zs, ρ[k]? = some (some (.own zs)) := fun k ys q => by
      rw [List.getElem?_set] at q
      by_cases e' : i = k
      · subst e'; exact ⟨_, hi⟩
      · rw [if_neg e'] at q; exact ⟨_, q⟩
    refine ⟨c.fb, fun b z => ?_, T.loc s2 H2 H' (fun b o hb q => e b o q fun z => h3 (by rw [← z]; exact hb)) a2, by rw [List.length_set]; exact c.ln, fun k w q => ?_, fun b o q z => ?_, c.ab, c.d0, c.ba, fun k l ys zs q q1 q2 q3 q4 => ?_, c.ex⟩
    · by_cases e' : b = p
      · rw [e', hp']; exact fun z => nomatch z
      · cases q : H2 b with
        | none => exact absurd q (c2.dm b z)
        | some o => rw [e b o q e']; exact fun z => nomatch z
    · rw [List.getElem?_set] at q
      by_cases e' : i = k
      · subst e'
        rw [if_pos rfl, if_pos hil] at q
        cases q
        exact ⟨p, _, h1, h2, h3, h5, hp', DDs.ints ns'⟩
      · rw [if_neg e'] at q
        have z := c2.sl k w q
        cases w with
        | d x => obtain ⟨v, z1, z2⟩ := z; exact ⟨v, z1, DD.mono sc _ _ z2⟩
        | v x => exact z
        | own ys =>
          obtain ⟨p', vs', z1, z2, z3, z5, z6, z7⟩ := z
          have np : p' ≠ p := fun zz => by
            subst zz
            exact c.ow i k _ ys p' hi q e' hv (join_some z1)
          exact ⟨p', vs', z1, z2, z3, z5, e p' _ z6 np, DDs.mono sc _ _ z7⟩
    · exact e b o (c2.fr b o q z) fun zz => by rw [zz, h5] at q; cases q
    · obtain ⟨ys', y1⟩ := iso k ys q1
      obtain ⟨zs', y2⟩ := iso l zs q2
      exact c.ow k l ys' zs' q y1 y2 q3 q4
  exact n B _ H' s2 _ hz (c3.setD d)
def initG (p : Addr) (N : List Str) (ds : List PyData) : DEnv := ds.map (fun d => some (.d d)) ++ some (.v (.ref p)) :: List.replicate (N.length - (ds.length + 1)) none
theorem initG_get {p : Addr} {N : List Str} {ds : List PyData} {i : Nat} {w : W} (h : (initG p N ds)[i]? = some (some w)) : (∃ d, ds[i]? = some d ∧ w = .d d) ∨ (i = ds.length ∧ w = .v (.ref p)) := by
  unfold initG at h
  by_cases hi : i < ds.length
  · rw [List.getElem?_append_left (by simpa using hi), List.getElem?_map] at h
    cases e : ds[i]? with
    | none => rw [e] at h; cases h
    | some x => rw [e] at h; cases h; exact .inl ⟨x, rfl, rfl⟩
  · rw [List.getElem?_append_right (by simpa using hi)] at h
    simp only [List.length_map] at h
    cases e : i - ds.length with
    | zero => rw [e] at h; cases h; exact .inr ⟨by omega, rfl⟩
    | succ k =>
      rw [e, List.getElem?_cons_succ, List.getElem?_replicate] at h
      split at h <;> cases h
theorem cxt_startG {N : List Str} {vs : List V} {ds : List PyData} {ns : List Int} {B : Addr → Prop} {H : Hp} {p : Addr} (dm : ∀ a, B a → H a ≠ none) (d : DDs (cut B H) vs ds) (hp : B p) (ha : H p = some (.lst (ns.map V.int))) :
    Cxt (lS p) B H B (L2.start N (vs ++ [.ref p])) H ns (initG p N ds) := by
  have hl := d.len
  refine ⟨fun a z => by rw [z]; exact hp, dm, ha, by unfold L2.start initG; simp [hl], fun i w q => ?_, Fr.refl, fun a z => z, dm, fun a z => .inl z, fun i j xs ys q h1 _ => ?_, fun _ _ _ _ _ z => z.elim⟩
  · rcases initG_get q with ⟨x, h1, rfl⟩ | ⟨rfl, rfl⟩
    · obtain ⟨v, h2, h3⟩ := d.get h1
      have hi := (List.getElem?_eq_some_iff.mp h2).1
      have h4 : (vs ++ [V.ref p])[i]? = some v := by rw [List.getElem?_append_left hi]; exact h2
      exact ⟨v, by rw [start_get h4]; rfl, h3⟩
    · have h4 : (vs ++ [V.ref p])[ds.length]? = some (.ref p) := by rw [List.getElem?_append_right (by omega), hl, Nat.sub_self]; rfl
      show (_ : Option (Option V)).join = some _
      rw [start_get h4]
      rfl
  · rcases initG_get h1 with ⟨x, _, h⟩ | ⟨_, h⟩ <;> cases h
theorem fnG {P : Program} {w : World} {K : PySem.W.Frag} {mg : Str → Option Value} {base : Heap} {x qual : Str} {st : Stmt} {f : Addr} {fd : FuncData} {N ps : List Str} {k : Nat} {Pr : PreG} {t : TS} (F : Fun K x qual st f fd) (S : FnScope N ps (defScope st))
    (len : ∀ ds ns Ψ, Pr ds ns Ψ → ds.length + 1 = ps.length)
    (hb : ∀ (cdv : Value) (A : Around) (outer : List PySem.Env) (s : Shared) (H : Hp) (E : XK), Room k (A.deeper (PyProof.Rows.envOfC qual (defScope st) s.heap.objs.size f cdv)) → PSs (cxOf CX0 P w K mg base N qual (defScope st) f cdv A outer s H E).nox (defBody st) t)
    (hw : ∀ p ds ns Ψ, Pr ds ns Ψ → WS (lS p) t ns (initG p N ds) Ψ (fun _ => Ψ .none)) : FnOk P w K mg base CX0 (k + 1) f fd ps (spG Pr) := by
  refine F.ok S (fun vs H Q E h => ?_) (fun cdv A outer s H vs Q E hr h => ?_)
  · obtain ⟨p, us, B, ds, ns, Ψ, rfl, _, _, _, d, pr, _⟩ := h
    rw [List.length_append, d.len, ← len ds ns Ψ pr]
    rfl
  · obtain ⟨p, us, B, ds, ns, Ψ, rfl, hp, ha, dm, d, pr, q⟩ := h
    refine ⟨t, hb cdv A outer s H E hr, ?_⟩
    exact hw p ds ns Ψ pr B H B _ H (cxt_startG dm d hp ha) _ (fun v H' z s' hz e a d' => q v H' z s' hz e a d') fun B' σ' H' s' ρ' hn c => q .non H' .none s' hn c.fr c.at_ .non
end J

namespace J
open PySem L2
theorem fnR {P : Program} {w : World} {K : PySem.W.Frag} {mg : Str → Option Value} {base : Heap} {x qual : Str} {st : Stmt} {f : Addr} {fd : FuncData} {N ps : List Str} {k : Nat} {sp : Sp} {t : TS} (F : Fun K x qual st f fd) (S : FnScope N ps (defScope st))
    (len : ∀ vs H Q E, sp vs H Q E → vs.length = ps.length)
    (hb : ∀ (cdv : Value) (A : Around) (outer : List PySem.Env) (s : Shared) (H : Hp) (E : XK), Room k (A.deeper (PyProof.Rows.envOfC qual (defScope st) s.heap.objs.size f cdv)) → PSs (cxOf CX0 P w K mg base N qual (defScope st) f cdv A outer s H E).nox (defBody st) t)
    (hw : ∀ vs H Q E, sp vs H Q E → t { nx := fun _ H' => Q .non H', rt := Q } (L2.start N vs) H) : FnOk P w K mg base CX0 (k + 1) f fd ps sp :=
  F.ok S len fun cdv A outer s H vs Q E hr h => ⟨t, hb cdv A outer s H E hr, hw vs H Q E h⟩
theorem lay_ints : ∀ ns : List Int, PyData.canLayAll0 (ns.map .int) = true ∧ PyData.depthAll (ns.map .int) ≤ 1
  | [] => ⟨rfl, by simp [PyData.depthAll]⟩
  | n :: r => by
    obtain ⟨h1, h2⟩ := lay_ints r
    refine ⟨by simp [PyData.canLayAll0, PyData.canLay0, h1], ?_⟩
    have : PyData.depthAll (PyData.int n :: r.map .int) = max (PyData.int n).depth (PyData.depthAll (r.map .int)) := by simp [PyData.depthAll]
    show PyData.depthAll (PyData.int n :: r.map .int) ≤ 1
    rw [this]
    have : (PyData.int n).depth ≤ 1 := by simp [PyData.depth]
    omega
theorem shaped_ints (ns : List Int) : SeqAt.shaped (.list (ns.map .int)) = true := shaped_of (by simp [PyData.canLay0, (lay_ints ns).1]) (by have := (lay_ints ns).2; simp only [PyData.depth]; omega)
theorem shaped_intsT (ns : List Int) : SeqAt.shaped (.tuple (ns.map .int)) = true := shaped_of (by simp [PyData.canLay0, (lay_ints ns).1]) (by have := (lay_ints ns).2; simp only [PyData.depth]; omega)
theorem BoxAt.ne {b l : Addr} {H : Hp} (h : BoxAt b l H) : b ≠ l := by
  obtain ⟨ns, z, h1, h2⟩ := h
  rintro rfl
  rw [h1] at h2
  have e : ([.ref b, .int z] : List V) = ns.map V.int := by injection (Option.some.inj h2)
  cases ns with
  | nil => cases e
  | cons n r => cases e
def spBegun (K : PySem.W.Frag) : Sp := fun vs H Q _ => ∃ (a : Addr) (ns : List Int), vs = [.ref a] ∧ SqL K H a (ns.map V.int) ∧ ns.length ≤ 63 ∧ ∀ b l H', H b = none → H l = none → Same H H' → BoxAt b l H' → Q (.ref b) H'
def P_take : Pre := fun ds Ψ => ∃ m : Int, ds = [.int m] ∧ 0 < m ∧ m < 1000000 ∧ ∀ r, 0 ≤ r → r < m → Ψ (.int r)
theorem at0 {α : Type} {x : α} {r : List α} : atI (x :: r) 0 = some x := atI_nat (j := 0) rfl
theorem at1 {α : Type} {x y : α} {r : List α} : atI (x :: y :: r) 1 = some y := atI_nat (j := 1) rfl
theorem ixn0 {n : Nat} : ixN (n + 1) 0 = some 0 := by
  unfold ixN
  rw [if_pos (by decide), if_pos (by omega)]
  rfl
theorem sqi0 {n : Nat} : PySem.seqIndex? 0 (n + 1) = some 0 := (ixN_seq ixn0).1
/-! ### data without oddities -/
mutual
def nice : PyData → Bool
  | .none => true
  | .bool _ => true
  | .int _ => true
  | .str s => PyData.strOk s
  | .list ds => decide (ds.length ≤ 100000) && niceAll ds
  | .tuple ds => decide (ds.length ≤ 100000) && niceAll ds
  | .dict _ => false
def niceAll : List PyData → Bool
  | [] => true
  | d :: ds => nice d && niceAll ds
end
mutual
theorem nice_lay : ∀ d : PyData, nice d = true → d.canLay0 = true
  | .none, _ => rfl
  | .bool _, _ => rfl
  | .int _, _ => rfl
  | .str s, h => by simpa [PyData.canLay0, nice] using h
  | .list ds, h => by
    have h' : ds.length ≤ 100000 ∧ niceAll ds = true := by simpa [nice] using h
    simpa [PyData.canLay0] using niceAll_lay ds h'.2
  | .tuple ds, h => by
    have h' : ds.length ≤ 100000 ∧ niceAll ds = true := by simpa [nice] using h
    simpa [PyData.canLay0] using niceAll_lay ds h'.2
  | .dict _, h => by simp [nice] at h
theorem niceAll_lay : ∀ ds : List PyData, niceAll ds = true → PyData.canLayAll0 ds = true
  | [], _ => rfl
  | d :: ds, h => by
    have h' : nice d = true ∧ niceAll ds = true := by simpa [niceAll] using h
    simp [PyData.canLayAll0, nice_lay d h'.1, niceAll_lay ds h'.2]
end
theorem niceAll_mem : ∀ {ds : List PyData} {d : PyData}, niceAll ds = true → d ∈ ds → nice d = true
  | e :: r, d, h, m => by
    have h' : nice e = true ∧ niceAll r = true := by simpa [niceAll] using h
    cases m with
    | head _ => exact h'.1
    | tail _ m => exact niceAll_mem h'.2 m
theorem niceAll_of : ∀ {ds : List PyData}, (∀ d ∈ ds, nice d = true) → niceAll ds = true
  | [], _ => rfl
  | d :: ds, h => by simp [niceAll, h d (.head _), niceAll_of fun e m => h e (.tail _ m)]
theorem depth_mem : ∀ {ds : List PyData} {d : PyData}, d ∈ ds → d.depth ≤ PyData.depthAll ds
  | e :: r, d, m => by
    have e1 : PyData.depthAll (e :: r) = max e.depth (PyData.depthAll r) := by simp [PyData.depthAll]
    rw [e1]
    cases m with
    | head _ => omega
    | tail _ m => have := depth_mem m; omega
theorem depthAll_le : ∀ {ds : List PyData} {n : Nat}, (∀ d ∈ ds, d.depth ≤ n) → PyData.depthAll ds ≤ n
  | [], n, _ => by simp [PyData.depthAll]
  | d :: ds, n, h => by
    have e1 : PyData.depthAll (d :: ds) = max d.depth (PyData.depthAll ds) := by simp [PyData.depthAll]
    rw [e1]
    have := h d (.head _)
    have := depthAll_le fun e m => h e (.tail _ m)
    omega
theorem depth_list (ds : List PyData) : (PyData.list ds).depth = PyData.depthAll ds + 1 := by simp [PyData.depth]; try omega
theorem depth_tuple (ds : List PyData) : (PyData.tuple ds).depth = PyData.depthAll ds + 1 := by simp [PyData.depth]; try omega
theorem depth_int (i : Int) : (PyData.int i).depth ≤ 1 := by simp [PyData.depth]
theorem Cn.nice : ∀ c : Cn, J.nice c.D = true
  | .look _ => by simp [Cn.D, J.nice, niceAll, so_l]
  | .nt c => by simp [Cn.D, J.nice, niceAll, so_n, c.nice]
  | .pr b x y => by rw [D_pr]; simp [J.nice, niceAll, wOf_so b, x.nice, y.nice]
theorem nice_ints (ns : List Int) (h : ns.length ≤ 100000) : nice (.list (ns.map .int)) = true := by
  simp only [nice, List.length_map, Bool.and_eq_true, decide_eq_true_eq]
  exact ⟨h, niceAll_of fun d m => by obtain ⟨i, _, rfl⟩ := List.mem_map.mp m; rfl⟩
theorem nice_intsT (ns : List Int) (h : ns.length ≤ 100000) : nice (.tuple (ns.map .int)) = true := by
  simp only [nice, List.length_map, Bool.and_eq_true, decide_eq_true_eq]
  exact ⟨h, niceAll_of fun d m => by obtain ⟨i, _, rfl⟩ := List.mem_map.mp m; rfl⟩
theorem eqv_self {d : PyData} (h : nice d = true) : PyData.eqv d d = true := PySem.SeqAt.eqv_refl d (nice_lay d h)
theorem rd_ne_same {K : PySem.W.Frag} {Φ : PyData → Prop} {d : PyData} (hn : nice d = true) (hd : d.depth ≤ 64) (q : Φ (.bool false)) : RD (rNeD K) d d Φ := rd_ne (shaped_of (nice_lay _ hn) hd) (shaped_of (nice_lay _ hn) hd) (by rw [eqv_self hn]; exact q)
theorem rd_eq_same {K : PySem.W.Frag} {Φ : PyData → Prop} {d : PyData} (hn : nice d = true) (hd : d.depth ≤ 64) (q : Φ (.bool true)) : RD (rEqD K) d d Φ := rd_eq (shaped_of (nice_lay _ hn) hd) (shaped_of (nice_lay _ hn) hd) (by rw [eqv_self hn]; exact q)
end J

namespace J
open PySem L2
/-! ### what is told anew may be changed -/
mutual
def noL : PyData → Bool
  | .list _ => false
  | .tuple ds => noLs ds
  | _ => true
def noLs : List PyData → Bool
  | [] => true
  | d :: ds => noL d && noLs ds
end
def NewA (B : Addr → Prop) (H : Hp) : Addr → Prop := fun a => B a ∨ ∃ xs, H a = some (.lst xs)
mutual
theorem DD.noL {B : Addr → Prop} {H : Hp} : ∀ (d : PyData) (v : V), J.noL d = true → DD (cut B H) v d → DD (cut (NewA B H) H) v d
  | .none, _, _, h => by cases h; exact .non
  | .bool b, _, _, h => by cases h; exact .bl b
  | .int i, _, _, h => by cases h; exact .int i
  | .str x, _, _, h => by cases h; exact .str x
  | .list ds, _, n, h => by simp [J.noL] at n
  | .tuple ds, _, n, h => by
    cases h with
    | tup ha hs =>
      obtain ⟨h1, h2⟩ := cut_get ha
      exact .tup (cut_of h1 fun z => z.elim h2 fun ⟨xs, e⟩ => by rw [h1] at e; cases e) (DDs.noL ds _ (by simpa [J.noL] using n) hs)
  | .dict _, _, _, h => by cases h
theorem DDs.noL {B : Addr → Prop} {H : Hp} : ∀ (ds : List PyData) (vs : List V), J.noLs ds = true → DDs (cut B H) vs ds → DDs (cut (NewA B H) H) vs ds
  | [], _, _, h => by cases h; exact .nil
  | d :: ds, _, n, h => by
    have n' : J.noL d = true ∧ J.noLs ds = true := by simpa [J.noLs] using n
    cases h with
    | cons h1 h2 => exact .cons (DD.noL d _ n'.1 h1) (DDs.noL ds _ n'.2 h2)
end
theorem Cn.noL : ∀ c : Cn, J.noL c.D = true
  | .look _ => rfl
  | .nt c => by simp [Cn.D, J.noL, J.noLs, c.noL]
  | .pr b x y => by rw [D_pr]; simp [J.noL, J.noLs, x.noL, y.noL]
theorem noLs_ints : ∀ ns : List Int, noLs (ns.map .int) = true
  | [] => rfl
  | n :: r => by simp [noLs, noL, noLs_ints r]
theorem noL_ints (ns : List Int) : noL (.tuple (ns.map .int)) = true := noLs_ints ns
section
variable {T : Sto} {A0 : Addr → Prop} {H0 : Hp} {B : Addr → Prop} {σ : L2.St} {H H1 H2 : Hp} {s : T.S} {ρ : DEnv}
/-- the new lists: forbidden to what was there -/
def NewB (B : Addr → Prop) (H1 H2 : Hp) : Addr → Prop := fun a => B a ∨ (H1 a = none ∧ ∃ xs, H2 a = some (.lst xs))
theorem Cxt.fresh (c : Cxt T A0 H0 B σ H1 s ρ) (e : Same H1 H2) : Cxt T A0 H0 (NewB B H1 H2) σ H2 s ρ := by
  have sc : Same (cut B H1) (cut (NewB B H1 H2) H2) := fun a o q => by
    obtain ⟨q1, q2⟩ := cut_get q
    exact cut_of (e a o q1) fun z => z.elim q2 fun ⟨z, _⟩ => by rw [z] at q1; cases q1
  refine ⟨fun a z => .inl (c.fb a z), fun a z => ?_, T.loc s H1 H2 (fun a o _ h => e a o h) c.at_, c.ln, fun i w q => ?_, c.fr.trans (Fr.of e), fun a z => .inl (c.ab a z), c.d0, fun a z => ?_, c.ow, c.ex⟩
  · rcases z with z | ⟨_, xs, z⟩
    · cases q : H1 a with
      | none => exact absurd q (c.dm a z)
      | some o => rw [e a o q]; exact fun z => nomatch z
    · rw [z]; exact fun z => nomatch z
  · have z := c.sl i w q
    cases w with
    | d x => obtain ⟨v, z1, z2⟩ := z; exact ⟨v, z1, DD.mono sc _ _ z2⟩
    | v x => exact z
    | own xs => obtain ⟨p, us, z1, z2, z3, z5, z6, z7⟩ := z; exact ⟨p, us, z1, .inl z2, z3, z5, e p _ z6, DDs.mono sc _ _ z7⟩
  · rcases z with z | ⟨z, _⟩
    · exact c.ba a z
    · refine .inr ?_
      by_cases f : T.F a
      · exact .inl f
      · refine .inr ?_
        cases q : H0 a with
        | none => rfl
        | some o => rw [c.fr a o q f] at z; cases z
theorem Cxt.mut (c : Cxt T A0 H0 B σ H s ρ) {p : Addr} {ys zs : List V} (hp : B p) (nf : ¬ T.F p) (n0 : H0 p = none) (no : ∀ (i : Nat) xs, ρ[i]? = some (some (.own xs)) → σ[i]? ≠ some (some (.ref p))) (hh : H p = some (.lst ys)) : Cxt T A0 H0 B σ (upd H p (.lst zs)) s ρ := by
  have sc : Same (cut B H) (cut B (upd H p (.lst zs))) := fun a o q => by
    obtain ⟨q1, q2⟩ := cut_get q
    exact cut_of (by rw [upd_ne fun z => q2 (by rw [z]; exact hp)]; exact q1) q2
  refine ⟨c.fb, fun a z => ?_, T.loc s H _ (fun a o hb q => by rw [upd_ne fun z => nf (by rw [← z]; exact hb)]; exact q) c.at_, c.ln, fun i w q => ?_, fun a o q n => ?_, c.ab, c.d0, c.ba, c.ow, c.ex⟩
  · by_cases e : a = p
    · rw [e, upd_same]; exact fun z => nomatch z
    · rw [upd_ne e]; exact c.dm a z
  · have z := c.sl i w q
    cases w with
    | d x => obtain ⟨v, z1, z2⟩ := z; exact ⟨v, z1, DD.mono sc _ _ z2⟩
    | v x => exact z
    | own xs =>
      obtain ⟨p', us, z1, z2, z3, z5, z6, z7⟩ := z
      have np : p' ≠ p := fun zz => no i xs q (by rw [← zz]; exact join_some z1)
      exact ⟨p', us, z1, z2, z3, z5, by rw [upd_ne np]; exact z6, DDs.mono sc _ _ z7⟩
  · rw [upd_ne fun z => by rw [z, n0] at q; cases q]
    exact c.fr a o q n
end
/-- a statement that changes one list of what is told -/
def MutOk (tm : TS) (i : Nat) (x : PyData) : Prop := ∀ (G : Hp) (v : V) (σ : L2.St) (H : Hp) (D : Ends), σ[i]? = some (some v) → DD G v x → (∀ a o, G a = some o → H a = some o) → D.nx σ H → (∀ p ys zs, G p = some (.lst ys) → D.nx σ (upd H p (.lst zs))) → tm D σ H
theorem mut_append {K : PySem.W.Frag} {i : Nat} {j n : Int} {ds ys : List PyData} (h : atI ds j = some (.list ys)) (hl : ys.length < 100000) : MutOk (tDrop (tBM K "list" rAppend (tOp (rIx K) (tVar i) (tC (.int j))) (tCons (tC (.int n)) tNil))) i (.tuple ds) := fun G v σ H D hv d e _ k => by
  cases d with
  | tup ha hs =>
    obtain ⟨u, h1, h2⟩ := hs.at_ h
    cases h2 with
    | @lst p us _ hp hu =>
      exact ⟨_, hv, .inr (.inl ⟨_, _, j, .ref p, rfl, rfl, SqT.of (e _ _ ha), h1, Or.inl ⟨rfl, _, SqL.of (e _ _ hp)⟩, ⟨p, us, _, rfl, rfl, e _ _ hp, Nat.lt_of_lt_of_le (by rw [hu.len]; exact hl) (by decide), k p us _ hp⟩⟩)⟩
theorem mut_reverse {K : PySem.W.Frag} {i : Nat} {ys : List PyData} : MutOk (tDrop (tBM0 K "list" rReverse (tVar i))) i (.list ys) := fun G v σ H D hv d e _ k => by
  cases d with
  | @lst p us _ hp hu => exact ⟨_, hv, Or.inl ⟨rfl, _, SqL.of (e _ _ hp)⟩, p, us, rfl, rfl, e _ _ hp, k p us _ hp⟩
section
variable {T : Sto} {s : T.S} {ρ : DEnv} {R : PyData → T.S → Prop} {N : DEnv → T.S → Prop} {ta : TA} {te : TE} {tt : TT} {tm u : TS} {P : Pre} {E : XK} {i : Nat}
/-- x = f(..); if test: return e; x is changed; the rest -/
theorem ws_mutG (M : DEnv → T.S → Prop) (hu : ∀ ρ s, M ρ s → WS T u s ρ R N) (hi : i < ρ.length) (h : WA T ta s ρ fun xs s1 => noLs xs = true ∧ P xs fun x => MutOk tm i x ∧ WT T tt s1 (ρ.set i (some (.d x))) fun b s2 => if b = true then WE T te s2 (frz (ρ.set i (some (.d x)))) R else ∀ w, M (ρ.set i (some (.v w))) s2) :
    WS T (tSeq (tAsg (tCall (spD P) [] E ta) (gName i)) (tSeq (tIfS tt (tRet te) tNext) (tSeq tm u))) s ρ R N := fun A0 H0 B σ H c D r n =>
  h A0 H0 B σ H c _ fun vs H1 xs s1 ⟨nl, h1⟩ e1 a1 d1 => by
    have c1 := c.step e1 a1
    refine ⟨NewA B H1, xs, _, fun a z => ?_, by rw [List.append_nil]; exact DDs.noL _ _ nl d1, h1, fun v H2 x ⟨hm, ht⟩ e2 d2 => ?_⟩
    · rcases z with z | ⟨_, z⟩
      · exact c1.dm a z
      · rw [z]; exact fun z => nomatch z
    · have G1 : ∀ a o, cut (NewA B H1) H2 a = some o → H2 a = some o ∧ ¬ B a ∧ ∀ ys, o = .lst ys → H1 a = none := fun a o q => by
        obtain ⟨q1, q2⟩ := cut_get q
        refine ⟨q1, fun z => q2 (.inl z), fun ys eo => ?_⟩
        cases q3 : H1 a with
        | none => rfl
        | some o' =>
          have q4 := e2 a o' q3
          rw [q1] at q4
          cases q4
          exact absurd (.inr ⟨ys, by rw [q3, eo]⟩) q2
      have cN := (c1.fresh e2).set (i := i) (w := .v v) rfl fun _ z => nomatch z
      have cD := (c1.grow e2).setD (i := i) (DD.mono (cut_mono fun a z => .inl z) _ _ d2)
      have hv : (σ.set i (some v))[i]? = some (some v) := by rw [List.getElem?_set, if_pos rfl, if_pos (by rw [c.ln]; exact hi)]
      refine ht A0 H0 B _ H2 cD _ fun b H3 s2 hb e3 a3 => ?_
      cases b with
      | true =>
        have hb : WE T te s2 (frz (ρ.set i (some (.d x)))) R := hb
        exact hb A0 H0 _ _ H3 (cD.step e3 a3).frz _ fun v H' x s' f e a d => r v H' x s' f ((cD.step e3 a3).fr.trans e) a (DD.mono (cut_mono fun _ z => .inl z) _ _ d)
      | false =>
        have hb : ∀ w, WS T u s2 (ρ.set i (some (.v w))) R N := fun w => hu _ _ ((show ∀ w, M (ρ.set i (some (.v w))) s2 from hb) w)
        have c3 := cN.step e3 a3
        have G3 : ∀ a o, cut (NewA B H1) H2 a = some o → H3 a = some o := fun a o q => e3 a o (G1 a o q).1 fun z => (G1 a o q).2.1 (c.fb a z)
        refine hm _ v _ H3 _ hv d2 G3 (hb v A0 H0 _ _ _ c3 D r n) fun p ys zs hp => ?_
        obtain ⟨g1, g2, g3⟩ := G1 p _ hp
        have g4 := g3 ys rfl
        have nf : ¬ T.F p := fun z => g2 (c.fb p z)
        have n0 : H0 p = none := by
          cases q : H0 p with
          | none => rfl
          | some o => rw [c1.fr p o q nf] at g4; cases g4
        have no : ∀ (j : Nat) xs, (ρ.set i (some (.v v)))[j]? = some (some (.own xs)) → (σ.set i (some v))[j]? ≠ some (some (.ref p)) := fun j xs q1 q2 => by
          rw [List.getElem?_set] at q1 q2
          by_cases e : i = j
          · rw [if_pos e, if_pos hi] at q1; cases q1
          · rw [if_neg e] at q1 q2
            obtain ⟨p', us, z1, _, _, _, z6, _⟩ := c1.sl j _ q1
            have z := join_some z1
            rw [q2] at z
            cases z
            rw [g4] at z6
            cases z6
        exact hb v A0 H0 _ _ _ (c3.mut (.inr ⟨g4, ys, g1⟩) nf n0 no (G3 p _ hp)) D r n
end
section
variable {T : Sto} {s : T.S} {ρ : DEnv} {R : PyData → T.S → Prop} {N : DEnv → T.S → Prop} {ta : TA} {te : TE} {tt : TT} {tm u : TS} {P : Pre} {E : XK} {i : Nat}
theorem ws_mut (hi : i < ρ.length) (h : WA T ta s ρ fun xs s1 => noLs xs = true ∧ P xs fun x => MutOk tm i x ∧ WT T tt s1 (ρ.set i (some (.d x))) fun b s2 => if b = true then WE T te s2 (frz (ρ.set i (some (.d x)))) R else ∀ w, WS T u s2 (ρ.set i (some (.v w))) R N) :
    WS T (tSeq (tAsg (tCall (spD P) [] E ta) (gName i)) (tSeq (tIfS tt (tRet te) tNext) (tSeq tm u))) s ρ R N := ws_mutG (fun ρ s => WS T u s ρ R N) (fun _ _ z => z) hi h
/-- the same, nothing behind it -/
theorem ws_mutE (hi : i < ρ.length) (h : WA T ta s ρ fun xs s1 => noLs xs = true ∧ P xs fun x => MutOk tm i x ∧ WT T tt s1 (ρ.set i (some (.d x))) fun b s2 => if b = true then WE T te s2 (frz (ρ.set i (some (.d x)))) R else ∀ w, N (ρ.set i (some (.v w))) s2) :
    WS T (tSeq (tAsg (tCall (spD P) [] E ta) (gName i)) (tSeq (tIfS tt (tRet te) tNext) tm)) s ρ R N :=
  show WS T (tSeq (tAsg (tCall (spD P) [] E ta) (gName i)) (tSeq (tIfS tt (tRet te) tNext) (tSeq tm tNext))) s ρ R N from ws_mutG N (fun _ _ z => ws_next z) hi h
end
/-! ### loops between whose turns the slots are known -/
inductive LeE : DEnv → DEnv → Prop where
  | nil : LeE [] []
  | no {x : Option W} {a b : DEnv} : LeE a b → LeE (none :: a) (x :: b)
  | eq {x : Option W} {a b : DEnv} : LeE a b → LeE (x :: a) (x :: b)
theorem LeE.spec : ∀ {a b : DEnv}, LeE a b → a.length = b.length ∧ ∀ (i : Nat) w, a[i]? = some (some w) → b[i]? = some (some w)
  | _, _, .nil => ⟨rfl, fun _ _ h => h⟩
  | _, _, .no h => by
    obtain ⟨h1, h2⟩ := h.spec
    refine ⟨by simp [h1], fun i w e => ?_⟩
    cases i with
    | zero => cases e
    | succ i => exact h2 i w (by simpa using e)
  | _, _, .eq h => by
    obtain ⟨h1, h2⟩ := h.spec
    refine ⟨by simp [h1], fun i w e => ?_⟩
    cases i with
    | zero => simpa using e
    | succ i => simpa using h2 i w (by simpa using e)
theorem Cxt.weak {T : Sto} {A0 : Addr → Prop} {H0 : Hp} {B : Addr → Prop} {σ : L2.St} {H : Hp} {s : T.S} {ρ ρ' : DEnv} (c : Cxt T A0 H0 B σ H s ρ) (h : LeE ρ' ρ) : Cxt T A0 H0 B σ H s ρ' := by
  obtain ⟨h1, h2⟩ := h.spec
  exact ⟨c.fb, c.dm, c.at_, c.ln.trans h1.symm, fun i w q => c.sl i w (h2 i w q), c.fr, c.ab, c.d0, c.ba, fun i j xs ys p q1 q2 => c.ow i j xs ys p (h2 _ _ q1) (h2 _ _ q2), c.ex⟩
section
variable {T : Sto} {s : T.S} {ρ : DEnv} {R : PyData → T.S → Prop} {N : DEnv → T.S → Prop} {t : TS}
theorem ws_le {ρ' : DEnv} (le : LeE ρ' ρ) (h : WS T t s ρ' R N) : WS T t s ρ R N := ws_weak h le.spec
/-- behind it the slots may be forgotten -/
theorem ws_ends {N' : DEnv → T.S → Prop} (h : WS T t s ρ R fun ρ' s' => ∃ ρ2, LeE ρ2 ρ' ∧ N ρ2 s') : WS T t s ρ R N := fun A0 H0 B σ H c D r n => h A0 H0 B σ H c D r fun B' σ' H' s' ρ' ⟨ρ2, le, q⟩ c' => n B' σ' H' s' ρ2 q (c'.weak le)
variable {g : TG} {tb : TS} {tl : TE} {ta : TA} {K : PySem.W.Frag}
theorem ws_for_rangeC (C : Nat → DEnv) (h : WA T ta s ρ fun xs s1 => ∃ n : Int, xs = [.int n] ∧ n ≤ 1000000 ∧ -1000000 ≤ n ∧ LeE (C 0) ρ ∧
      (∀ (i : Nat) s', (i : Int) < n → WG T g (.int (i : Int)) s' (C i) fun ρ2 s2 => WS T tb s2 ρ2 R fun ρ' _ => LeE (C (i + 1)) ρ') ∧ ∀ s', N (C n.toNat) s') : WS T (tFor (iRng1 ta) g tb) s ρ R N := by
  refine ws_ends (N' := N) (ws_for_range fun A0 H0 B σ H c Q k => h A0 H0 B σ H c Q fun vs H' xs s1 ⟨n, e, h1, h2, le, hs, q⟩ => k vs H' xs s1 ⟨n, e, h1, h2, fun i ρ' _ => LeE (C i) ρ', le, fun i ρ' s' hi le' => ?_, fun ρ' s' le' => ⟨_, le', q s'⟩⟩)
  exact fun A0 H0 B σ H c v d Q k => hs i s' hi A0 H0 B σ H (c.weak le') v d Q k
theorem ws_for_listC (C : Nat → DEnv) (h : WE T tl s ρ fun x s1 => ∃ ds, x = .list ds ∧ LeE (C 0) ρ ∧ (∀ (i : Nat) d s', ds[i]? = some d → WG T g d s' (C i) fun ρ2 s2 => WS T tb s2 ρ2 R fun ρ' _ => LeE (C (i + 1)) ρ') ∧ ∀ s', N (C ds.length) s') :
    WS T (tFor (iSeq K tl) g tb) s ρ R N := by
  refine ws_ends (N' := N) (ws_for_list (WE.mono h fun x s1 ⟨ds, e, le, hs, q⟩ => ⟨ds, e, fun i ρ' _ => LeE (C i) ρ', le, fun i d ρ' s' hi le' => ?_, fun ρ' s' le' => ⟨_, le', q s'⟩⟩))
  exact fun A0 H0 B σ H c v d' Q k => hs i d s' hi A0 H0 B σ H (c.weak le') v d' Q k
/-! the same, and a word about the turns -/
theorem ws_for_listI (C : Nat → DEnv) (J : Nat → Prop) (h : WE T tl s ρ fun x s1 => ∃ ds, x = .list ds ∧ LeE (C 0) ρ ∧ J 0 ∧ (∀ (i : Nat) d s', ds[i]? = some d → J i → WG T g d s' (C i) fun ρ2 s2 => WS T tb s2 ρ2 R fun ρ' _ => LeE (C (i + 1)) ρ' ∧ J (i + 1)) ∧ ∀ s', J ds.length → N (C ds.length) s') :
    WS T (tFor (iSeq K tl) g tb) s ρ R N := by
  refine ws_ends (N' := N) (ws_for_list (WE.mono h fun x s1 ⟨ds, e, le, j0, hs, q⟩ => ⟨ds, e, fun i ρ' _ => LeE (C i) ρ' ∧ J i, ⟨le, j0⟩, fun i d ρ' s' hi ⟨le', hj⟩ => ?_, fun ρ' s' ⟨le', hj⟩ => ⟨_, le', q s' hj⟩⟩))
  exact fun A0 H0 B σ H c v d' Q k => hs i d s' hi hj A0 H0 B σ H (c.weak le') v d' Q k
theorem ws_for_rangeI (C : Nat → DEnv) (J : Nat → Prop) (h : WA T ta s ρ fun xs s1 => ∃ n : Int, xs = [.int n] ∧ n ≤ 1000000 ∧ -1000000 ≤ n ∧ LeE (C 0) ρ ∧ J 0 ∧
      (∀ (i : Nat) s', (i : Int) < n → J i → WG T g (.int (i : Int)) s' (C i) fun ρ2 s2 => WS T tb s2 ρ2 R fun ρ' _ => LeE (C (i + 1)) ρ' ∧ J (i + 1)) ∧ ∀ s', J n.toNat → N (C n.toNat) s') : WS T (tFor (iRng1 ta) g tb) s ρ R N := by
  refine ws_ends (N' := N) (ws_for_range fun A0 H0 B σ H c Q k => h A0 H0 B σ H c Q fun vs H' xs s1 ⟨n, e, h1, h2, le, j0, hs, q⟩ => k vs H' xs s1 ⟨n, e, h1, h2, fun i ρ' _ => LeE (C i) ρ' ∧ J i, ⟨le, j0⟩, fun i ρ' s' hi ⟨le', hj⟩ => ?_, fun ρ' s' ⟨le', hj⟩ => ⟨_, le', q s' hj⟩⟩)
  exact fun A0 H0 B σ H c v d Q k => hs i s' hi hj A0 H0 B σ H (c.weak le') v d Q k
theorem ws_for_tupC (C : Nat → DEnv) (h : WE T tl s ρ fun x s1 => ∃ ds, x = .tuple ds ∧ LeE (C 0) ρ ∧ (∀ (i : Nat) d s', ds[i]? = some d → WG T g d s' (C i) fun ρ2 s2 => WS T tb s2 ρ2 R fun ρ' _ => LeE (C (i + 1)) ρ') ∧ ∀ s', N (C ds.length) s') :
    WS T (tFor (iSeq K tl) g tb) s ρ R N := by
  refine ws_ends (N' := N) (ws_for_tup (WE.mono h fun x s1 ⟨ds, e, le, hs, q⟩ => ⟨ds, e, fun i ρ' _ => LeE (C i) ρ', le, fun i d ρ' s' hi le' => ?_, fun ρ' s' le' => ⟨_, le', q s'⟩⟩))
  exact fun A0 H0 B σ H c v d' Q k => hs i d s' hi A0 H0 B σ H (c.weak le') v d' Q k
end
section
variable {T : Sto} {s : T.S} {ρ : DEnv} {R : PyData → T.S → Prop} {N : DEnv → T.S → Prop} {tb : TS} {tt : TT}
theorem ws_whileC {α : Type} (C : α → DEnv) (I : α → Prop) (μ : α → Nat) (a0 : α) (h0 : I a0) (le : LeE (C a0) ρ) (hs : ∀ a s, I a → WT T tt s (C a) fun b s1 => if b = true then WS T tb s1 (C a) R (fun ρ' _ => ∃ a', I a' ∧ μ a' < μ a ∧ LeE (C a') ρ') else N (C a) s1) :
    WS T (tWhile tt tb) s ρ R N := by
  refine ws_ends (N' := N) (ws_while (W' := fun m ρ' _ => ∃ a, I a ∧ μ a = m ∧ LeE (C a) ρ') (m0 := μ a0) ⟨a0, h0, rfl, le⟩ ?_)
  rintro m ρ' s' ⟨a, ha, rfl, le'⟩
  intro A0 H0 B σ H c Q k
  refine hs a s' ha A0 H0 B σ H (c.weak le') Q fun b H' s1 hb e1 a1 => k b H' s1 ?_ e1 a1
  cases b with
  | true => exact ws_le le' (WS.mono (show WS T tb s1 (C a) R _ from hb) fun ρ2 s2 ⟨a', h1, h2, h3⟩ => ⟨_, h2, a', h1, rfl, h3⟩)
  | false => exact ⟨_, le', hb⟩
end
/-! ### the law -/
def spLaw (K : PySem.W.Frag) : Sp := fun vs H Q _ => ∃ (a : Addr) (ns : List Int), vs = [.ref a] ∧ SqL K H a (ns.map V.int) ∧ ns.length ≤ 63 ∧ ∀ H', Q (.bl true) H'
def initL (b : Addr) (N : List Str) : DEnv := none :: some (.v (.ref b)) :: List.replicate (N.length - 2) none
theorem fnLaw {P : Program} {w : World} {K : PySem.W.Frag} {mg : Str → Option Value} {base : Heap} {x qual : Str} {st : Stmt} {f : Addr} {fd : FuncData} {N ps : List Str} {k : Nat} {u : TS} (F : Fun K x qual st f fd) (S : FnScope N ps (defScope st)) (len : ps.length = 1 ∧ 2 ≤ N.length)
    (hb : ∀ (cdv : Value) (A : Around) (outer : List PySem.Env) (s : Shared) (H : Hp) (E : XK), Room k (A.deeper (PyProof.Rows.envOfC qual (defScope st) s.heap.objs.size f cdv)) → PSs (cxOf CX0 P w K mg base N qual (defScope st) f cdv A outer s H E).nox (defBody st) (tSeq (tAsg (tCall (spBegun K) [] E0 (tCons (tVar 0) tNil)) (gName 1)) u))
    (hw : ∀ b l, WS (bxS b l) u () (initL b N) (fun x _ => x = .bool true) (fun _ _ => False)) : FnOk P w K mg base CX0 (k + 1) f fd ps (spLaw K) := by
  refine F.ok S (fun vs H Q E h => ?_) (fun cdv A outer s H vs Q E hr h => ?_)
  · obtain ⟨a, ns, rfl, _⟩ := h
    rw [len.1]
    rfl
  · obtain ⟨a, ns, rfl, hS, hl, q⟩ := h
    refine ⟨_, hb cdv A outer s H E hr, ?_⟩
    have e : L2.start N [.ref a] = some (.ref a) :: none :: List.replicate (N.length - 2) none := by
      unfold L2.start
      have e2 : N.length - [V.ref a].length = (N.length - 2) + 1 := by show N.length - 1 = _; have := len.2; omega
      rw [e2]
      rfl
    rw [e]
    refine ⟨_, rfl, a, ns, rfl, hS, hl, fun b l H' hb hl' sm hbx => ?_⟩
    have hbx' := hbx
    obtain ⟨ms, z, h1, h2⟩ := hbx'
    refine hw b l (fun a => a = b ∨ a = l) H' (fun a => a = b ∨ a = l) _ H' ⟨fun a z => z, fun a z => ?_, hbx, ?_, fun i w q => ?_, Fr.refl, fun a z => z, fun a z => ?_, fun a z => .inl z, fun i j xs ys p h1 _ => ?_, fun _ _ _ _ _ z => z.elim⟩ _ (fun v H'' x s' hx _ _ d => ?_) fun _ _ _ _ _ z => z.elim
    · rcases z with rfl | rfl
      · rw [h1]; exact fun z => nomatch z
      · rw [h2]; exact fun z => nomatch z
    · unfold initL
      simp
    · match i, q with
      | 1, q => cases q; rfl
      | n + 2, q =>
        have q : (List.replicate (N.length - 2) (none : Option W))[n]? = some (some w) := q
        rw [List.getElem?_replicate] at q
        split at q <;> cases q
    · rcases z with rfl | rfl
      · rw [h1]; exact fun z => nomatch z
      · rw [h2]; exact fun z => nomatch z
    · match i, h1 with
      | 1, q => cases q
      | n + 2, q =>
        have q : (List.replicate (N.length - 2) (none : Option W))[n]? = some (some (.own xs)) := q
        rw [List.getElem?_replicate] at q
        split at q <;> cases q
    · subst hx
      cases d
      exact q _
end J

namespace J
open PySem L2
/-! ### codes -/
abbrev wEnd : Str := "end"
structure Row where
  thing : Int
  when_ : Int
  to : Int
def Row.D (r : Row) : PyData := .tuple [.str wLook, .int r.thing, .int r.when_, .int r.to]
def endD (w : Int) : PyData := .tuple [.str wEnd, .int w]
def rowAt (i b y n : Int) : Row := if y = b + 1 then ⟨i, 0, n⟩ else ⟨i, 1, y⟩
def Cn.rows : Cn → Int → Int → Int → List Row
  | .look i, b, y, n => [rowAt i b y n]
  | .nt c, b, y, n => c.rows b n y
  | .pr true x d, b, y, n => x.rows b (b + x.looks) n ++ d.rows (b + x.looks) y n
  | .pr false x d, b, y, n => x.rows b y (b + x.looks) ++ d.rows (b + x.looks) y n
theorem Cn.rows_len : ∀ (c : Cn) (b y n : Int), (c.rows b y n).length = c.looks
  | .look i, b, y, n => rfl
  | .nt c, b, y, n => c.rows_len b n y
  | .pr true x d, b, y, n => by simp [Cn.rows, Cn.looks, x.rows_len, d.rows_len]
  | .pr false x d, b, y, n => by simp [Cn.rows, Cn.looks, x.rows_len, d.rows_len]
/-- where to if it is so, by the end that is first -/
def Cn.yes (c : Cn) (f : Int) : Int := c.looks + (if f = 0 then 1 else 0)
def Cn.code (c : Cn) (f : Int) : List PyData := (c.rows 0 (c.yes f) (2 * c.looks + 1 - c.yes f)).map Row.D ++ [endD f, endD (1 - f)]
theorem so_e : PyData.strOk wEnd = true := by decide +kernel
theorem Row.nice (r : Row) : J.nice r.D = true := by simp [Row.D, J.nice, niceAll, so_l]
theorem endD_nice (w : Int) : J.nice (endD w) = true := by simp [endD, J.nice, niceAll, so_e]
theorem Row.depth (r : Row) : r.D.depth ≤ 2 := by
  unfold Row.D
  rw [depth_tuple]
  have : PyData.depthAll [.str wLook, .int r.thing, .int r.when_, .int r.to] ≤ 1 := depthAll_le fun d hd => by
    simp only [List.mem_cons, List.not_mem_nil, or_false] at hd
    rcases hd with rfl | rfl | rfl | rfl <;> simp [PyData.depth]
  omega
theorem endD_depth (w : Int) : (endD w).depth ≤ 2 := by
  unfold endD
  rw [depth_tuple]
  have : PyData.depthAll [.str wEnd, .int w] ≤ 1 := depthAll_le fun d hd => by
    simp only [List.mem_cons, List.not_mem_nil, or_false] at hd
    rcases hd with rfl | rfl <;> simp [PyData.depth]
  omega
theorem Cn.code_mem {c : Cn} {f : Int} {d : PyData} (h : d ∈ c.code f) : (∃ r : Row, d = r.D) ∨ ∃ w, d = endD w := by
  unfold Cn.code at h
  rcases List.mem_append.mp h with h | h
  · obtain ⟨r, _, rfl⟩ := List.mem_map.mp h
    exact .inl ⟨r, rfl⟩
  · simp only [List.mem_cons, List.not_mem_nil, or_false] at h
    rcases h with rfl | rfl
    · exact .inr ⟨_, rfl⟩
    · exact .inr ⟨_, rfl⟩
theorem Cn.code_len (c : Cn) (f : Int) : (c.code f).length = c.looks + 2 := by simp [Cn.code, c.rows_len]
theorem Cn.code_nice {c : Cn} (f : Int) (h : c.looks ≤ 1000) : J.nice (.list (c.code f)) = true ∧ (PyData.list (c.code f)).depth ≤ 3 := by
  refine ⟨?_, ?_⟩
  · simp only [J.nice, Bool.and_eq_true, decide_eq_true_eq]
    refine ⟨by rw [c.code_len]; omega, niceAll_of fun d hd => ?_⟩
    rcases c.code_mem hd with ⟨r, rfl⟩ | ⟨w, rfl⟩
    · exact r.nice
    · exact endD_nice w
  · rw [depth_list]
    have : PyData.depthAll (c.code f) ≤ 2 := depthAll_le fun d hd => by
      rcases c.code_mem hd with ⟨r, rfl⟩ | ⟨w, rfl⟩
      · exact r.depth
      · exact endD_depth w
    omega
/-! ### reading a list of one's own -/
section
variable {T : Sto} {s : T.S} {ρ : DEnv} {Φ : PyData → T.S → Prop} {K : PySem.W.Frag} {i : Nat} {xs : List PyData} {te : TE}
theorem wp_lenO (h : ρ[i]? = some (some (.own xs))) (q : Φ (.int xs.length) s) : WE T (tCB (rLenU K) (tCons (tVar i) tNil)) s ρ Φ := fun A0 H0 B σ H c Q k => by
  obtain ⟨p, vs, h1, h2, h3, h5, h6, h7⟩ := c.sl i _ h
  refine ⟨_, join_some h1, .inl ⟨p, vs, rfl, .inl (SqL.of h6), ?_⟩⟩
  rw [h7.len]
  exact k _ H _ s q Fr.refl c.at_ (.int _)
theorem wp_ixO (h : ρ[i]? = some (some (.own xs))) (q : WE T te s ρ fun y s1 => ∃ n d, y = .int n ∧ atI xs n = some d ∧ Φ d s1) : WE T (tOp (rIx K) (tVar i) te) s ρ Φ := fun A0 H0 B σ H c Q k => by
  obtain ⟨p, vs, h1, h2, h3, h5, h6, h7⟩ := c.sl i _ h
  refine ⟨_, join_some h1, q A0 H0 B σ H c _ fun v H1 y s1 ⟨n, d, ey, e, f⟩ e1 a1 d1 => ?_⟩
  subst ey
  cases d1
  obtain ⟨u, g1, g2⟩ := h7.at_ e
  exact .inl ⟨p, vs, n, u, rfl, rfl, SqL.of (e1 p _ h6 h3), g1, k _ H1 _ s1 f e1 a1 (DD.mono (e1.cut c.fb) _ _ g2)⟩
end
end J

namespace J
open PySem L2
/-! ### codes that are run -/
def codeD (R : List Row) (f : Int) : List PyData := R.map Row.D ++ [endD f, endD (1 - f)]
structure RowOk (L : Nat) (k : Nat) (r : Row) : Prop where
  thing : 0 ≤ r.thing ∧ r.thing < 8
  bit : r.when_ = 0 ∨ r.when_ = 1
  to : (k : Int) < r.to ∧ r.to ≤ (L : Int) + 1
structure Code (R : List Row) (f : Int) : Prop where
  len : R.length ≤ 38
  rows : ∀ (k : Nat) r, R[k]? = some r → RowOk R.length k r
  bit : f = 0 ∨ f = 1
/-- where a row goes on -/
def Row.next (ws : List Int) (r : Row) (p : Nat) : Nat := if thingAt ws r.thing = r.when_ then r.to.toNat else p + 1
def Row.leap (ws : List Int) (r : Row) : Int := if thingAt ws r.thing = r.when_ then 1 else 0
/-- (the place that is come to, the things looked at, the jumps) -/
def runF (R : List Row) (ws : List Int) : Nat → Nat → Nat × List Int × Int
  | 0, p => (p, [], 0)
  | n + 1, p => match R[p]? with
    | none => (p, [], 0)
    | some r => ((runF R ws n (r.next ws p)).1, r.thing :: (runF R ws n (r.next ws p)).2.1, r.leap ws + (runF R ws n (r.next ws p)).2.2)
theorem runF_out {R : List Row} {ws : List Int} {p : Nat} (h : R[p]? = none) : ∀ n, runF R ws n p = (p, [], 0)
  | 0 => rfl
  | n + 1 => by simp [runF, h]
theorem runF_in {R : List Row} {ws : List Int} {p n : Nat} {r : Row} (h : R[p]? = some r) : runF R ws (n + 1) p = ((runF R ws n (r.next ws p)).1, r.thing :: (runF R ws n (r.next ws p)).2.1, r.leap ws + (runF R ws n (r.next ws p)).2.2) := by
  simp [runF, h]
theorem runF_leaps (R : List Row) (ws : List Int) : ∀ n p, 0 ≤ (runF R ws n p).2.2 ∧ (runF R ws n p).2.2 ≤ ((runF R ws n p).2.1.length : Int)
  | 0, p => ⟨Int.le_refl _, Int.le_refl _⟩
  | n + 1, p => by
    cases h : R[p]? with
    | none => rw [runF_out h]; exact ⟨Int.le_refl _, Int.le_refl _⟩
    | some r =>
      rw [runF_in h]
      have ih := runF_leaps R ws n (r.next ws p)
      have hl : r.leap ws = 0 ∨ r.leap ws = 1 := by unfold Row.leap; split <;> simp
      simp only [List.length_cons]
      omega
theorem runF_len (R : List Row) (ws : List Int) : ∀ n p, (runF R ws n p).2.1.length ≤ n
  | 0, p => Nat.le_refl _
  | n + 1, p => by
    cases h : R[p]? with
    | none => rw [runF_out h]; exact Nat.zero_le _
    | some r =>
      rw [runF_in h]
      have ih := runF_len R ws n (r.next ws p)
      simp only [List.length_cons]
      omega
/-- the whole run -/
def runOf (R : List Row) (ws : List Int) : Nat × List Int × Int := runF R ws R.length 0
/-- the run so far, and what is left of it -/
structure RunTo (R : List Row) (ws : List Int) (p : Nat) (l : List Int) (j : Int) : Prop where
  le : p ≤ R.length + 1
  len : l.length ≤ p
  is : ∃ n, R.length ≤ p + n ∧ runOf R ws = ((runF R ws n p).1, l ++ (runF R ws n p).2.1, j + (runF R ws n p).2.2)
theorem RunTo.start (R : List Row) (ws : List Int) : RunTo R ws 0 [] 0 := ⟨Nat.zero_le _, Nat.le_refl _, R.length, by omega, by unfold runOf; simp⟩
theorem Row.next_gt {L k : Nat} {r : Row} {ws : List Int} (h : RowOk L k r) : k < r.next ws k ∧ (k < L → r.next ws k ≤ L + 1) := by
  have := h.to
  unfold Row.next
  split <;> omega
theorem RunTo.turn {R : List Row} {f : Int} {ws : List Int} {p : Nat} {l : List Int} {j : Int} {r : Row} (c : Code R f) (h : RunTo R ws p l j) (hr : R[p]? = some r) : RunTo R ws (r.next ws p) (l ++ [r.thing]) (j + r.leap ws) := by
  obtain ⟨h1, h2, n, h3, h4⟩ := h
  have hp := (List.getElem?_eq_some_iff.mp hr).1
  obtain ⟨g1, g2⟩ := Row.next_gt (ws := ws) (c.rows p r hr)
  cases n with
  | zero => omega
  | succ n =>
    rw [runF_in hr] at h4
    refine ⟨g2 hp, by rw [List.length_append]; show l.length + 1 ≤ _; omega, n, by omega, ?_⟩
    rw [h4, List.append_assoc, Int.add_assoc]
    rfl
theorem RunTo.done {R : List Row} {ws : List Int} {p : Nat} {l : List Int} {j : Int} (h : RunTo R ws p l j) (hp : R.length ≤ p) : runOf R ws = (p, l, j) ∧ (p = R.length ∨ p = R.length + 1) := by
  obtain ⟨h1, h2, n, h3, h4⟩ := h
  rw [runF_out (List.getElem?_eq_none_iff.mpr hp)] at h4
  exact ⟨by rw [h4]; simp, by omega⟩
/-- an end's worth -/
def endAt (R : List Row) (f : Int) (p : Nat) : Int := if p = R.length then f else 1 - f
theorem codeD_row {R : List Row} {f : Int} {p : Nat} {r : Row} (h : R[p]? = some r) : atI (codeD R f) (p : Int) = some r.D := atI_nat (by
  have hp := (List.getElem?_eq_some_iff.mp h).1
  unfold codeD
  rw [List.getElem?_append_left (by rw [List.length_map]; exact hp), List.getElem?_map, h]
  rfl)
theorem codeD_end {R : List Row} {f : Int} {p : Nat} (h : p = R.length ∨ p = R.length + 1) : atI (codeD R f) (p : Int) = some (endD (endAt R f p)) := atI_nat (by
  unfold codeD endAt
  rw [List.getElem?_append_right (by rw [List.length_map]; omega), List.length_map]
  rcases h with rfl | rfl
  · rw [Nat.sub_self, if_pos rfl]; rfl
  · rw [show R.length + 1 - R.length = 1 from by omega, if_neg (by omega)]; rfl)
theorem codeD_len (R : List Row) (f : Int) : (codeD R f).length = R.length + 2 := by simp [codeD]
theorem codeD_shaped {R : List Row} {f : Int} (h : R.length ≤ 1000) : SeqAt.shaped (.list (codeD R f)) = true := by
  have hm : ∀ d ∈ codeD R f, J.nice d = true ∧ d.depth ≤ 2 := fun d hd => by
    unfold codeD at hd
    rcases List.mem_append.mp hd with hd | hd
    · obtain ⟨r, _, rfl⟩ := List.mem_map.mp hd
      exact ⟨r.nice, r.depth⟩
    · simp only [List.mem_cons, List.not_mem_nil, or_false] at hd
      rcases hd with rfl | rfl <;> exact ⟨endD_nice _, endD_depth _⟩
  refine shaped_of (nice_lay _ ?_) ?_
  · simp only [J.nice, Bool.and_eq_true, decide_eq_true_eq]
    exact ⟨by rw [codeD_len]; omega, niceAll_of fun d hd => (hm d hd).1⟩
  · rw [depth_list]
    have := depthAll_le fun d hd => (hm d hd).2
    omega
/-! a condition's code -/
theorem Cn.rows_ok : ∀ (c : Cn) (b y n L : Int), c.ok → 0 ≤ b → b + c.looks ≤ y → b + c.looks ≤ n → y ≤ L → n ≤ L → ∀ (k : Nat) r, (c.rows b y n)[k]? = some r →
    (0 ≤ r.thing ∧ r.thing < 8) ∧ (r.when_ = 0 ∨ r.when_ = 1) ∧ b + k < r.to ∧ r.to ≤ L ∧ (y ≠ n → b + k + 1 < r.to)
  | .look i, b, y, n, L, ok, hb, hy, hn, hyL, hnL, k, r, h => by
    have hy : b + ((1 : Nat) : Int) ≤ y := hy
    have hn : b + ((1 : Nat) : Int) ≤ n := hn
    cases k with
    | zero =>
      have e : rowAt i b y n = r := by simpa [Cn.rows] using h
      subst e
      unfold rowAt
      by_cases q : y = b + 1
      · rw [if_pos q]
        exact ⟨ok, .inl rfl, by show b + ((0 : Nat) : Int) < n; omega, hnL, fun z => by show b + ((0 : Nat) : Int) + 1 < n; omega⟩
      · rw [if_neg q]
        exact ⟨ok, .inr rfl, by show b + ((0 : Nat) : Int) < y; omega, hyL, fun z => by show b + ((0 : Nat) : Int) + 1 < y; omega⟩
    | succ k => simp [Cn.rows] at h
  | .nt c, b, y, n, L, ok, hb, hy, hn, hyL, hnL, k, r, h => by
    obtain ⟨h1, h2, h3, h4, h5⟩ := c.rows_ok b n y L ok hb hn hy hnL hyL k r h
    exact ⟨h1, h2, h3, h4, fun z => h5 fun w => z w.symm⟩
  | .pr true x d, b, y, n, L, ok, hb, hy, hn, hyL, hnL, k, r, h => by
    have hy : b + ((x.looks + d.looks : Nat) : Int) ≤ y := hy
    have hn : b + ((x.looks + d.looks : Nat) : Int) ≤ n := hn
    have dp := d.looks_pos
    have h : (x.rows b (b + x.looks) n ++ d.rows (b + x.looks) y n)[k]? = some r := h
    by_cases hk : k < x.looks
    · rw [List.getElem?_append_left (by rw [x.rows_len]; exact hk)] at h
      obtain ⟨h1, h2, h3, h4, h5⟩ := x.rows_ok b (b + x.looks) n L ok.1 hb (Int.le_refl _) (by omega) (by omega) hnL k r h
      exact ⟨h1, h2, h3, h4, fun _ => h5 (by omega)⟩
    · rw [List.getElem?_append_right (by rw [x.rows_len]; omega), x.rows_len] at h
      obtain ⟨h1, h2, h3, h4, h5⟩ := d.rows_ok (b + x.looks) y n L ok.2 (by omega) (by omega) (by omega) hyL hnL (k - x.looks) r h
      exact ⟨h1, h2, by omega, h4, fun z => by have := h5 z; omega⟩
  | .pr false x d, b, y, n, L, ok, hb, hy, hn, hyL, hnL, k, r, h => by
    have hy : b + ((x.looks + d.looks : Nat) : Int) ≤ y := hy
    have hn : b + ((x.looks + d.looks : Nat) : Int) ≤ n := hn
    have dp := d.looks_pos
    have h : (x.rows b y (b + x.looks) ++ d.rows (b + x.looks) y n)[k]? = some r := h
    by_cases hk : k < x.looks
    · rw [List.getElem?_append_left (by rw [x.rows_len]; exact hk)] at h
      obtain ⟨h1, h2, h3, h4, h5⟩ := x.rows_ok b y (b + x.looks) L ok.1 hb (by omega) (Int.le_refl _) hyL (by omega) k r h
      exact ⟨h1, h2, h3, h4, fun _ => h5 (by omega)⟩
    · rw [List.getElem?_append_right (by rw [x.rows_len]; omega), x.rows_len] at h
      obtain ⟨h1, h2, h3, h4, h5⟩ := d.rows_ok (b + x.looks) y n L ok.2 (by omega) (by omega) (by omega) hyL hnL (k - x.looks) r h
      exact ⟨h1, h2, by omega, h4, fun z => by have := h5 z; omega⟩
/-- the rows of a condition's code -/
def Cn.rows0 (c : Cn) (f : Int) : List Row := c.rows 0 (c.yes f) (2 * c.looks + 1 - c.yes f)
theorem Cn.code_eq (c : Cn) (f : Int) : c.code f = codeD (c.rows0 f) f := rfl
theorem Cn.yes_is {c : Cn} {f : Int} (hf : f = 0 ∨ f = 1) : (f = 1 ∧ c.yes f = c.looks) ∨ (f = 0 ∧ c.yes f = c.looks + 1) := by
  unfold Cn.yes
  rcases hf with rfl | rfl
  · exact .inr ⟨rfl, by rw [if_pos rfl]⟩
  · exact .inl ⟨rfl, by rw [if_neg (by decide)]; omega⟩
theorem Cn.row_ok {c : Cn} {f : Int} (ok : c.ok) (hf : f = 0 ∨ f = 1) {k : Nat} {r : Row} (h : (c.rows0 f)[k]? = some r) : RowOk c.looks k r ∧ (k : Int) + 1 < r.to := by
  have hy := c.yes_is hf
  obtain ⟨h1, h2, h3, h4, h5⟩ := c.rows_ok 0 (c.yes f) (2 * c.looks + 1 - c.yes f) (c.looks + 1) ok (Int.le_refl _) (by omega) (by omega) (by omega) (by omega) k r h
  have := h5 (by omega)
  exact ⟨⟨h1, h2, by omega, h4⟩, by omega⟩
theorem Cn.isCode {c : Cn} {f : Int} (ok : c.ok) (hl : c.looks ≤ 38) (hf : f = 0 ∨ f = 1) : Code (c.rows0 f) f := by
  have hlen : (c.rows0 f).length = c.looks := c.rows_len _ _ _
  exact ⟨by omega, fun k r h => by rw [hlen]; exact (Cn.row_ok ok hf h).1, hf⟩
/-- from the first row of a condition its rows come to where it is so, or to where it isn't -/
theorem Cn.runs {ws : List Int} (hw : Ws ws) {R : List Row} : ∀ (c : Cn) (b y n : Nat), c.ok → (∀ k, k < c.looks → R[b + k]? = (c.rows b y n)[k]?) → (y = b + c.looks ∨ n = b + c.looks) → b + c.looks ≤ y → b + c.looks ≤ n →
    ∀ (l : List Int) (j : Int) (m : Nat), c.looks ≤ m → ∃ i m', m ≤ m' + c.looks ∧ runF R ws m b = ((runF R ws m' (if c.val ws = 1 then y else n)).1, c.seen ws ++ (runF R ws m' (if c.val ws = 1 then y else n)).2.1, i + (runF R ws m' (if c.val ws = 1 then y else n)).2.2)
  | .look t, b, y, n, ok, hR, hyn, hy, hn, l, j, m, hm => by
    have hm : 1 ≤ m := hm
    have hyn : y = b + 1 ∨ n = b + 1 := hyn
    have h0 : R[b]? = some (rowAt t b y n) := by
      have := hR 0 Nat.one_pos
      simpa [Cn.rows] using this
    obtain ⟨m, rfl⟩ : ∃ k, m = k + 1 := ⟨m - 1, by omega⟩
    have hv : thingAt ws t = 0 ∨ thingAt ws t = 1 := (hw.at_ ok.1 ok.2).2
    refine ⟨(rowAt t b y n).leap ws, m, Nat.le_refl _, ?_⟩
    rw [runF_in h0]
    have e : (rowAt t b y n).next ws b = (if thingAt ws t = 1 then y else n) ∧ (rowAt t b y n).thing = t := by
      unfold rowAt
      by_cases q : (y : Int) = b + 1
      · rw [if_pos q]
        refine ⟨?_, rfl⟩
        show (if thingAt ws t = 0 then ((n : Int)).toNat else b + 1) = _
        rcases hv with e | e
        · rw [e, if_pos rfl, if_neg (by decide)]; omega
        · rw [e, if_neg (by decide), if_pos rfl]; omega
      · rw [if_neg q]
        refine ⟨?_, rfl⟩
        show (if thingAt ws t = 1 then ((y : Int)).toNat else b + 1) = _
        rcases hv with e | e
        · rw [e, if_neg (by decide), if_neg (by decide)]; omega
        · rw [e, if_pos rfl, if_pos rfl]; omega
    rw [e.1, e.2]
    rfl
  | .nt c, b, y, n, ok, hR, hyn, hy, hn, l, j, m, hm => by
    obtain ⟨i, m', h1, h2⟩ := c.runs hw b n y ok hR hyn.symm hn hy l j m hm
    refine ⟨i, m', h1, ?_⟩
    have hv := c.val_bit hw ok
    have e : (if (Cn.nt c).val ws = 1 then y else n) = (if c.val ws = 1 then n else y) := by
      show (if 1 - c.val ws = 1 then y else n) = _
      rcases hv with e | e <;> rw [e] <;> rfl
    rw [e]
    exact h2
  | .pr true x d, b, y, n, ok, hR, hyn, hy, hn, l, j, m, hm => by
    have hm : x.looks + d.looks ≤ m := hm
    have hyn : y = b + (x.looks + d.looks) ∨ n = b + (x.looks + d.looks) := hyn
    have hy : b + (x.looks + d.looks) ≤ y := hy
    have hn : b + (x.looks + d.looks) ≤ n := hn
    have dp := d.looks_pos
    have hR : ∀ k, k < x.looks + d.looks → R[b + k]? = (x.rows b ((b : Int) + x.looks) n ++ d.rows ((b : Int) + x.looks) y n)[k]? := hR
    have ec : (b : Int) + (x.looks : Int) = ((b + x.looks : Nat) : Int) := by omega
    rw [ec] at hR
    have hvx := x.val_bit hw ok.1
    obtain ⟨i, m', h1, h2⟩ := x.runs hw b (b + x.looks) n ok.1 (fun k hk => by rw [hR k (by omega), List.getElem?_append_left (by rw [x.rows_len]; exact hk)]) (.inl rfl) (Nat.le_refl _) (by omega) l j m (by omega)
    by_cases hs : x.val ws = stops true
    · have hs0 : x.val ws = 0 := hs
      rw [(Cn.pr_stop hs).1, (Cn.pr_stop hs).2]
      refine ⟨i, m', by show m ≤ m' + (x.looks + d.looks); omega, ?_⟩
      rw [h2, if_neg (by omega), if_neg (by omega)]
    · have hs1 : x.val ws = 1 := by
        rcases hvx with e | e
        · exact absurd e hs
        · exact e
      rw [if_pos hs1] at h2
      obtain ⟨i2, m2, h3, h4⟩ := d.runs hw (b + x.looks) y n ok.2 (fun k hk => by rw [Nat.add_assoc, hR (x.looks + k) (by omega), List.getElem?_append_right (by rw [x.rows_len]; omega), x.rows_len, Nat.add_sub_cancel_left]) (by omega) (by omega) (by omega) l j m' (by omega)
      rw [(Cn.pr_go hs).1, (Cn.pr_go hs).2]
      refine ⟨i + i2, m2, by show m ≤ m2 + (x.looks + d.looks); omega, ?_⟩
      rw [h2, h4, List.append_assoc, Int.add_assoc]
  | .pr false x d, b, y, n, ok, hR, hyn, hy, hn, l, j, m, hm => by
    have hm : x.looks + d.looks ≤ m := hm
    have hyn : y = b + (x.looks + d.looks) ∨ n = b + (x.looks + d.looks) := hyn
    have hy : b + (x.looks + d.looks) ≤ y := hy
    have hn : b + (x.looks + d.looks) ≤ n := hn
    have dp := d.looks_pos
    have hR : ∀ k, k < x.looks + d.looks → R[b + k]? = (x.rows b y ((b : Int) + x.looks) ++ d.rows ((b : Int) + x.looks) y n)[k]? := hR
    have ec : (b : Int) + (x.looks : Int) = ((b + x.looks : Nat) : Int) := by omega
    rw [ec] at hR
    have hvx := x.val_bit hw ok.1
    obtain ⟨i, m', h1, h2⟩ := x.runs hw b y (b + x.looks) ok.1 (fun k hk => by rw [hR k (by omega), List.getElem?_append_left (by rw [x.rows_len]; exact hk)]) (.inr rfl) (by omega) (Nat.le_refl _) l j m (by omega)
    by_cases hs : x.val ws = stops false
    · have hs0 : x.val ws = 1 := hs
      rw [(Cn.pr_stop hs).1, (Cn.pr_stop hs).2]
      refine ⟨i, m', by show m ≤ m' + (x.looks + d.looks); omega, ?_⟩
      rw [h2, if_pos hs0, if_pos hs0]
    · have hs1 : x.val ws = 0 := by
        rcases hvx with e | e
        · exact e
        · exact absurd e hs
      rw [if_neg (by omega)] at h2
      obtain ⟨i2, m2, h3, h4⟩ := d.runs hw (b + x.looks) y n ok.2 (fun k hk => by rw [Nat.add_assoc, hR (x.looks + k) (by omega), List.getElem?_append_right (by rw [x.rows_len]; omega), x.rows_len, Nat.add_sub_cancel_left]) (by omega) (by omega) (by omega) l j m' (by omega)
      rw [(Cn.pr_go hs).1, (Cn.pr_go hs).2]
      refine ⟨i + i2, m2, by show m ≤ m2 + (x.looks + d.looks); omega, ?_⟩
      rw [h2, h4, List.append_assoc, Int.add_assoc]
/-- run of the code tells what meant tells of the condition -/
theorem Cn.run_code {c : Cn} {f : Int} {ws : List Int} (hw : Ws ws) (ok : c.ok) (hf : f = 0 ∨ f = 1) : endAt (c.rows0 f) f (runOf (c.rows0 f) ws).1 = c.val ws ∧ (runOf (c.rows0 f) ws).2.1 = c.seen ws := by
  have hlen : (c.rows0 f).length = c.looks := c.rows_len _ _ _
  have hy := c.yes_is hf
  have hv := c.val_bit hw ok
  have e1 : ((c.yes f).toNat : Int) = c.yes f := by omega
  have e2 : ((2 * c.looks + 1 - c.yes f).toNat : Int) = 2 * c.looks + 1 - c.yes f := by omega
  obtain ⟨i, m', h1, h2⟩ := c.runs hw (R := c.rows0 f) 0 (c.yes f).toNat (2 * c.looks + 1 - c.yes f).toNat ok (fun k hk => by rw [e1, e2, Nat.zero_add]; rfl) (by omega) (by omega) (by omega) [] 0 c.looks (Nat.le_refl _)
  have hr : runOf (c.rows0 f) ws = runF (c.rows0 f) ws c.looks 0 := by unfold runOf; rw [hlen]
  have hp : ∀ p, (p = c.looks ∨ p = c.looks + 1) → runF (c.rows0 f) ws m' p = (p, [], 0) := fun p hp => runF_out (List.getElem?_eq_none_iff.mpr (by omega)) m'
  have hq : ∃ p : Nat, (if c.val ws = 1 then (c.yes f).toNat else (2 * c.looks + 1 - c.yes f).toNat) = p ∧ ((c.val ws = 1 ∧ (p : Int) = c.yes f) ∨ (c.val ws = 0 ∧ (p : Int) = 2 * c.looks + 1 - c.yes f)) := by
    refine ⟨_, rfl, ?_⟩
    rcases hv with e | e
    · rw [if_neg (by omega)]; exact .inr ⟨e, e2⟩
    · rw [if_pos e]; exact .inl ⟨e, e1⟩
  obtain ⟨p, hq1, hq2⟩ := hq
  rw [hq1, hp p (by omega)] at h2
  rw [hr, h2]
  refine ⟨?_, by simp⟩
  show (if p = (c.rows0 f).length then f else 1 - f) = c.val ws
  rw [hlen]
  by_cases q : p = c.looks
  · rw [if_pos q]; omega
  · rw [if_neg q]; omega
end J

namespace J
open PySem L2
/-! ### written dicts -/
def cD (kvs : List (Key × V)) : List (TE × TE) := kvs.map fun kv => (tC (kV kv.1), tC kv.2)
theorem pairs_c {σ : L2.St} {H : Hp} : ∀ {kvs : List (Key × V)} {Q : List (V × V) → Hp → Prop}, Q (kvs.map fun kv => (kV kv.1, kv.2)) H → tPairs (cD kvs) σ H Q
  | [], _, q => q
  | kv :: r, Q, q => pairs_c (kvs := r) (Q := fun ps H3 => Q ((kV kv.1, kv.2) :: ps) H3) q
theorem disp_c {σ : L2.St} {H : Hp} {kvs : List (Key × V)} {Q : VK} (hl : kvs.length ≤ 15) (q : ∀ p, H p = none → Q (.ref p) (upd H p (.dK (mergeK [] kvs)))) : tDisp (cD kvs) σ H Q := fun p hp =>
  pairs_c ⟨upd_same, kvs, rfl, hl, by rw [upd_upd]; exact q p hp⟩
def kD : Key → PyData
  | .inl i => .int i
  | .inr x => .str x
def vD : V → PyData
  | .int i => .int i
  | .str x => .str x
  | .bl b => .bool b
  | _ => .none
def scV : V → Bool
  | .int _ => true
  | .str _ => true
  | .bl _ => true
  | _ => false
theorem DD.sc {H : Hp} : ∀ {v : V}, scV v = true → DD H v (vD v)
  | .int i, _ => .int i
  | .str x, _ => .str x
  | .bl b, _ => .bl b
  | .non, h => by cases h
  | .byt _, h => by cases h
  | .flt _, h => by cases h
  | .ref _, h => by cases h
  | .ty _, h => by cases h
theorem DD.key {H : Hp} {v : V} {k : Key} (h : DD H v (kD k)) : v = kV k := by
  cases k with
  | inl i => cases h; rfl
  | inr x => cases h; rfl
section
variable {T : Sto} {s : T.S} {ρ : DEnv} {Φ : PyData → T.S → Prop} {ty tx : TE} {kvs : List (Key × V)}
theorem wp_dget (hl : kvs.length ≤ 15) (h : WE T ty s ρ fun y s1 => ∃ k r, y = kD k ∧ valV (mergeK [] kvs) k = some r ∧ scV r = true ∧ Φ (vD r) s1) : WE T (tDGet (tDisp (cD kvs)) ty) s ρ Φ := fun A0 H0 B σ H c Q k =>
  disp_c hl fun p hp => h A0 H0 B σ _ (c.grow (same_new hp)) _ fun v H1 y s1 ⟨ky, r, ey, hr, sr, q⟩ e1 a1 d1 => by
    subst ey
    have ev := DD.key d1
    subst ev
    have hp1 : H1 p = some (.dK (mergeK [] kvs)) := e1 p _ upd_same fun z => c.dm p (c.fb p z) hp
    refine ⟨p, r, rfl, ?_, k r H1 _ s1 q ((Fr.of (same_new hp)).trans e1) a1 (DD.sc sr)⟩
    rw [← hr]
    exact DGet.k hp1
theorem wp_dget2 (hl : kvs.length ≤ 15) (h : WE T ty s ρ fun y s1 => WE T tx s1 ρ fun x s2 => ∃ k z, y = kD k ∧ x = vD z ∧ scV z = true ∧ scV ((valV (mergeK [] kvs) k).getD z) = true ∧ Φ (vD ((valV (mergeK [] kvs) k).getD z)) s2) : WE T (tDGet2 (tDisp (cD kvs)) ty tx) s ρ Φ := fun A0 H0 B σ H c Q k =>
  disp_c hl fun p hp => by
    have cp := c.grow (same_new (o := .dK (mergeK [] kvs)) hp)
    refine ⟨p, rfl, .inl ⟨_, .inl upd_same⟩, h A0 H0 B σ _ cp _ fun v H1 y s1 h1 e1 a1 d1 => h1 A0 H0 B σ H1 (cp.step e1 a1) _ fun u H2 x s2 ⟨ky, z, ey, ex, sz, sr, q⟩ e2 a2 d2 => ?_⟩
    subst ey
    have ev := DD.key d1
    subst ev
    have eu : u = z := by
      subst ex
      cases z <;> first | (cases sz; done) | (cases d2; rfl)
    subst eu
    have nf : ¬ T.F p := fun z => c.dm p (c.fb p z) hp
    have hp2 : H2 p = some (.dK (mergeK [] kvs)) := e2 p _ (e1 p _ upd_same nf) nf
    exact ⟨_, DGet.k hp2, k _ H2 _ s2 q (((Fr.of (same_new hp)).trans e1).trans e2) a2 (DD.sc sr)⟩
end
/-! a dict that a def keeps -/
@[reducible] def tabS (T : Sto) (p : Addr) (kvs : List (Key × V)) : Sto := ⟨T.S, fun a => T.F a ∨ a = p, fun s H => T.At s H ∧ H p = some (.dK kvs), fun s H H' e ⟨h1, h2⟩ => ⟨T.loc s H H' (fun a o f => e a o (.inl f)) h1, e p _ (.inr rfl) h2⟩, fun s H a ⟨h1, h2⟩ f => by
  rcases f with f | f
  · exact T.dom s H a h1 f
  · rw [f, h2]; exact (fun z => nomatch z), T.E, T.Z⟩
section
variable {T : Sto} {s : T.S} {ρ : DEnv} {R : PyData → T.S → Prop} {te ty : TE} {kvs : List (Key × V)} {i : Nat} {N : DEnv → T.S → Prop}
/-- d = {..}; return e -/
theorem ws_dictRet (hl : kvs.length ≤ 15) (h : ∀ p, WE (tabS T p (mergeK [] kvs)) te s (frz ρ |>.set i (some (.v (.ref p)))) R) : WS T (tSeq (tAsg (tDisp (cD kvs)) (gName i)) (tRet te)) s ρ R N := fun A0 H0 B σ H c D r n =>
  show tDisp (cD kvs) σ H (fun x H1 => te (σ.set i (some x)) H1 D.rt) from disp_c hl fun p hp => by
    have c1 := (c.frz.grow (same_new (o := .dK (mergeK [] kvs)) hp))
    have nF : ¬ T.F p := fun z => c.dm p (c.fb p z) hp
    have nA : ¬ A0 p := fun z => c.dm p (c.ab p z) hp
    have n0 : H0 p = none := by
      cases q : H0 p with
      | none => rfl
      | some o => rw [c.fr p o q nF] at hp; cases hp
    have c2 : Cxt (tabS T p (mergeK [] kvs)) A0 H0 (fun a => (A0 a ∨ T.F a) ∨ a = p) σ (upd H p (.dK (mergeK [] kvs))) s (frz ρ) := by
      refine ⟨fun a z => z.elim (fun z => .inl (.inr z)) .inr, fun a z => ?_, ⟨c1.at_, upd_same⟩, c1.ln, fun j w q => ?_, fun a o q z => c1.fr a o q fun y => z (.inl y), fun a z => .inl (.inl z), c1.d0, fun a z => ?_, c1.ow, fun C k s' H' dd z e a x => c1.ex C k s' H' dd z (fun b o q y => e b o q fun w => w.elim y fun w => by rw [w, n0] at q; cases q) a.1 (x.mono fun _ y => .inl y)⟩
      · rcases z with z | z
        · exact c1.dm a z
        · rw [z, upd_same]; exact fun z => nomatch z
      · have z := c.frz.sl j w q
        cases w with
        | d x =>
          obtain ⟨v, z1, z2⟩ := z
          refine ⟨v, z1, DD.mono (fun a o q => ?_) _ _ z2⟩
          obtain ⟨q1, q2⟩ := cut_get q
          exact cut_of (same_new hp a o q1) fun z => z.elim q2 fun z => by rw [z, hp] at q1; cases q1
        | v x => exact z
        | own xs =>
          unfold frz at q
          rw [List.getElem?_map] at q
          cases e : ρ[j]? with
          | none => rw [e] at q; cases q
          | some w => rw [e] at q; cases w with
            | none => cases q
            | some w => cases w <;> cases q
      · rcases z with z | z
        · rcases z with z | z
          · exact .inl z
          · exact .inr (.inl (.inl z))
        · exact .inr (.inl (.inr z))
    have c3 := c2.set (i := i) (w := .v (.ref p)) rfl fun _ z => nomatch z
    refine h p A0 H0 _ _ _ c3 _ fun v H' x s' f e a d => r v H' x s' f ?_ a.1 (DD.mono (cut_mono fun _ z => .inl (.inl z)) _ _ d)
    intro b o q z
    by_cases eb : b = p
    · rw [eb, n0] at q; cases q
    · exact e b o (same_new hp b o (c.fr b o q z)) fun y => y.elim z eb
theorem wp_tabGet {p : Addr} {kvs : List (Key × V)} {Φ : PyData → T.S → Prop} (hi : ρ[i]? = some (some (.v (.ref p)))) (h : WE (tabS T p kvs) ty s ρ fun y s1 => ∃ k r, y = kD k ∧ valV kvs k = some r ∧ scV r = true ∧ Φ (vD r) s1) : WE (tabS T p kvs) (tDGet (tVar i) ty) s ρ Φ := fun A0 H0 B σ H c Q k =>
  ⟨_, join_some (c.sl i _ hi), h A0 H0 B σ H c _ fun v H1 y s1 ⟨ky, r, ey, hr, sr, q⟩ e1 a1 d1 => by
    subst ey
    have ev := DD.key d1
    subst ev
    refine ⟨p, r, rfl, ?_, k r H1 _ s1 q e1 a1 (DD.sc sr)⟩
    rw [← hr]
    exact DGet.k a1.2⟩
end
/-! ### more statements -/
section
variable {T : Sto} {s : T.S} {ρ : DEnv} {R : PyData → T.S → Prop} {N : DEnv → T.S → Prop} {te : TE}
theorem ws_par {i j : Nat} {ta : TA} (h : WA T ta s ρ fun xs s1 => ∃ a b, xs = [a, b] ∧ N ((ρ.set i (some (.d a))).set j (some (.d b))) s1) : WS T (tPar i j ta) s ρ R N := fun A0 H0 B σ H c D r n =>
  h A0 H0 B σ H c _ fun vs H1 xs s1 ⟨a, b, e, q⟩ e1 a1 d1 => by
    subst e
    cases d1 with
    | cons d1 d2 =>
      cases d2 with
      | cons d2 d3 =>
        cases d3
        exact ⟨_, _, rfl, n B _ H1 s1 _ q (((c.step e1 a1).setD d1).setD d2)⟩
/-- x.extend([..]), x a list of one's own -/
theorem ws_ext {K : PySem.W.Frag} {i : Nat} {xs : List PyData} (ho : ρ[i]? = some (some (.own xs))) (h : WE T te s ρ fun y s1 => ∃ ys, y = .list ys ∧ xs.length + ys.length ≤ 100000 ∧ N (ρ.set i (some (.own (xs ++ ys)))) s1) :
    WS T (tDrop (tBM K "list" rExtend (tVar i) (tCons te tNil))) s ρ R N := fun A0 H0 B σ H c D r n => by
  obtain ⟨p, vs, h1, h2, h3, h5, h6, h7⟩ := c.sl i _ ho
  have hi := join_some h1
  refine ⟨_, hi, Or.inl ⟨rfl, _, SqL.of h6⟩, h A0 H0 B σ H c _ fun v H1 y s1 ⟨ys, ey, hl, f⟩ e a d => ?_⟩
  subst ey
  cases d with
  | @lst q us _ hq hu =>
  have c1 := c.step e a
  have hp : H1 p = some (.lst vs) := e _ _ h6 h3
  refine ⟨p, q, vs, us, rfl, rfl, hp, (cut_get hq).1, Nat.le_trans (by rw [h7.len, hu.len]; exact hl) (by decide), ?_⟩
  have fr : Fr (fun a => a = p) H1 (upd H1 p (.lst (vs ++ us))) := fun b o q z => by rw [upd_ne z]; exact q
  have sc : Same (cut B H1) (cut B (upd H1 p (.lst (vs ++ us)))) := fr.cut fun b z => by rw [z]; exact h2
  have hil : i < ρ.length := (List.getElem?_eq_some_iff.mp ho).1
  have iso : ∀ (j : Nat) zs, (ρ.set i (some (.own (xs ++ ys))))[j]? = some (some (.own zs)) → ∃ zs, ρ[j]? = some (some (.own zs)) := fun j zs q => by
    rw [List.getElem?_set] at q
    by_cases e' : i = j
    · subst e'; exact ⟨_, ho⟩
    · rw [if_neg e'] at q; exact ⟨_, q⟩
  refine n B σ _ s1 _ f ⟨c.fb, fun b z => ?_, T.loc s1 H1 _ (fun b o hb q => ?_) a, by rw [List.length_set]; exact c.ln, fun j w q => ?_, fun b o q z => ?_, c.ab, c.d0, c.ba, fun j k ys zs q q1 q2 q3 q4 => ?_, c.ex⟩
  · by_cases e' : b = p
    · rw [e', upd_same]; exact fun z => nomatch z
    · rw [upd_ne e']; exact c1.dm b z
  · rw [upd_ne fun z => h3 (by rw [← z]; exact hb)]; exact q
  · rw [List.getElem?_set] at q
    by_cases e' : i = j
    · subst e'
      rw [if_pos rfl, if_pos hil] at q
      cases q
      exact ⟨p, _, h1, h2, h3, h5, upd_same, (DDs.mono (sc) _ _ (DDs.mono (e.cut c.fb) _ _ h7)).app (DDs.mono sc _ _ hu)⟩
    · rw [if_neg e'] at q
      have z := c1.sl j w q
      cases w with
      | d x => obtain ⟨v, z1, z2⟩ := z; exact ⟨v, z1, DD.mono sc _ _ z2⟩
      | v x => exact z
      | own ys =>
        obtain ⟨p', vs', z1, z2, z3, z5, z6, z7⟩ := z
        have np : p' ≠ p := fun zz => by
          subst zz
          exact c.ow i j xs ys p' ho q e' hi (join_some z1)
        exact ⟨p', vs', z1, z2, z3, z5, by rw [upd_ne np]; exact z6, DDs.mono sc _ _ z7⟩
  · rw [upd_ne fun zz => by rw [zz, h5] at q; cases q]
    exact c1.fr b o q z
  · obtain ⟨ys', y1⟩ := iso j ys q1
    obtain ⟨zs', y2⟩ := iso k zs q2
    exact c.ow j k ys' zs' q y1 y2 q3 q4
/-- y = x, x a list of one's own: from then on it is data -/
theorem ws_move {i j : Nat} {xs : List PyData} (ho : ρ[j]? = some (some (.own xs))) (h : N ((ρ.set j (some (.d (.list xs)))).set i (some (.d (.list xs)))) s) : WS T (tAsg (tVar j) (gName i)) s ρ R N := fun A0 H0 B σ H c D r n => by
  obtain ⟨p, vs, h1, h2, h3, h5, h6, h7⟩ := c.sl j _ ho
  have hj := join_some h1
  have hil : j < ρ.length := (List.getElem?_eq_some_iff.mp ho).1
  have sc : Same (cut B H) (cut (fun a => B a ∧ a ≠ p) H) := cut_mono fun a z => z.1
  have dp : DD (cut (fun a => B a ∧ a ≠ p) H) (.ref p) (.list xs) := .lst (cut_of h6 fun z => z.2 rfl) (DDs.mono sc _ _ h7)
  have c1 : Cxt T A0 H0 (fun a => B a ∧ a ≠ p) σ H s (ρ.set j (some (.d (.list xs)))) := by
    have own : ∀ (k : Nat) ys, (ρ.set j (some (.d (.list xs))))[k]? = some (some (.own ys)) → j ≠ k ∧ ρ[k]? = some (some (.own ys)) := fun k ys q => by
      rw [List.getElem?_set] at q
      by_cases e : j = k
      · rw [if_pos e, if_pos hil] at q; cases q
      · rw [if_neg e] at q; exact ⟨e, q⟩
    refine ⟨fun a z => ⟨c.fb a z, fun zz => h3 (by rw [← zz]; exact z)⟩, fun a z => c.dm a z.1, c.at_, by rw [List.length_set]; exact c.ln, fun k w q => ?_, c.fr, fun a z => ⟨c.ab a z, fun zz => c.d0 a z (by rw [zz]; exact h5)⟩, c.d0, fun a z => c.ba a z.1, fun k l ys zs q q1 q2 q3 q4 => ?_, c.ex⟩
    · rw [List.getElem?_set] at q
      by_cases e : j = k
      · rw [if_pos e, if_pos hil] at q
        cases q
        exact ⟨.ref p, by rw [← e]; exact h1, dp⟩
      · rw [if_neg e] at q
        have z := c.sl k w q
        cases w with
        | d x => obtain ⟨v, z1, z2⟩ := z; exact ⟨v, z1, DD.mono sc _ _ z2⟩
        | v x => exact z
        | own ys =>
          obtain ⟨p', vs', z1, z2, z3, z5, z6, z7⟩ := z
          have np : p' ≠ p := fun zz => by
            subst zz
            exact c.ow j k xs ys p' ho q e hj (join_some z1)
          exact ⟨p', vs', z1, ⟨z2, np⟩, z3, z5, z6, DDs.mono sc _ _ z7⟩
    · obtain ⟨_, y1⟩ := own k ys q1
      obtain ⟨_, y2⟩ := own l zs q2
      exact c.ow k l ys zs q y1 y2 q3 q4
  exact ⟨_, hj, n _ _ H s _ h (c1.setD dp)⟩
end
/-! ### worths by a number -/
def wsOf (n : Int) : List Int := [n / 128 % 2, n / 64 % 2, n / 32 % 2, n / 16 % 2, n / 8 % 2, n / 4 % 2, n / 2 % 2, n / 1 % 2]
theorem wsOf_ws (n : Int) : Ws (wsOf n) := ⟨rfl, fun w hw => by
  simp only [wsOf, List.mem_cons, List.not_mem_nil, or_false] at hw
  omega⟩
def wD (ws : List Int) : PyData := .tuple (ws.map .int)
theorem unI_D : ∀ ns : List Int, (ns.map PyData.int).map (fun d => match d with | .int i => i | _ => 0) = ns
  | [] => rfl
  | n :: r => by rw [List.map_cons, List.map_cons, unI_D r]
def unW : PyData → List Int
  | .tuple xs => xs.map fun d => match d with | .int i => i | _ => 0
  | _ => []
theorem unW_D (ws : List Int) : unW (wD ws) = ws := unI_D ws
/-! ### what is told of a condition -/
def toldD (c : Cn) (ws : List Int) : PyData := .tuple [.int (c.val ws), .list ((c.seen ws).map .int)]
theorem told_nice (c : Cn) (ws : List Int) (h : c.looks ≤ 1000) : nice (toldD c ws) = true ∧ (toldD c ws).depth ≤ 3 := by
  have h1 := c.seen_len ws
  have h2 := nice_ints (c.seen ws) (by omega)
  refine ⟨by unfold toldD; simp [nice, niceAll] at h2 ⊢; exact h2, ?_⟩
  unfold toldD
  rw [depth_tuple]
  have h3 := (lay_ints (c.seen ws)).2
  have h4 : PyData.depthAll [.int (c.val ws), .list ((c.seen ws).map .int)] ≤ 2 := depthAll_le fun d hd => by
    simp only [List.mem_cons, List.not_mem_nil, or_false] at hd
    rcases hd with rfl | rfl
    · simp [PyData.depth]
    · rw [depth_list]; omega
  omega
theorem wD_nice (ws : List Int) (h : ws.length ≤ 1000) : nice (wD ws) = true ∧ (wD ws).depth ≤ 2 := by
  refine ⟨nice_intsT ws (by omega), ?_⟩
  unfold wD
  rw [depth_tuple]
  have := (lay_ints ws).2
  omega
theorem eqv_ints : ∀ a b : List Int, PyData.eqvAll (a.map .int) (b.map .int) = decide (a = b)
  | [], [] => rfl
  | [], _ :: _ => by simp [PyData.eqvAll]
  | _ :: _, [] => by simp [PyData.eqvAll]
  | x :: a, y :: b => by
    show (PyData.eqv (.int x) (.int y) && PyData.eqvAll (a.map .int) (b.map .int)) = _
    rw [eqv_ints a b]
    show ((x == y) && decide (a = b)) = _
    by_cases h : x = y
    · subst h; simp
    · simp [h]
theorem eqv_told (c d : Cn) (ws vs : List Int) : PyData.eqv (toldD c ws) (toldD d vs) = decide (c.val ws = d.val vs ∧ c.seen ws = d.seen vs) := by
  show (PyData.eqv (.int (c.val ws)) (.int (d.val vs)) && (PyData.eqvAll ((c.seen ws).map .int) ((d.seen vs).map .int) && true)) = _
  rw [eqv_ints]
  show ((c.val ws == d.val vs) && (decide (c.seen ws = d.seen vs) && true)) = _
  rw [Bool.and_true, Bool.eq_iff_iff]
  simp
theorem eqv_nil (xs : List PyData) : PyData.eqv (.list xs) (.list []) = xs.isEmpty := by cases xs <;> simp [PyData.eqv, PyData.eqvAll]
/-! ### the first worths that part two conditions -/
def tellsSame (c d : Cn) (n : Nat) : Bool := decide (c.val (wsOf n) = d.val (wsOf n) ∧ c.seen (wsOf n) = d.seen (wsOf n))
def partN (c d : Cn) : Option Nat := (List.range 256).find? fun n => !tellsSame c d n
def partD (c d : Cn) : PyData := match partN c d with
  | none => .none
  | some n => .tuple [wD (wsOf n), toldD c (wsOf n), toldD d (wsOf n)]
theorem partN_some {c d : Cn} {i : Nat} (hi : i < 256) (h : ∀ n, n < i → tellsSame c d n = true) (hn : tellsSame c d i = false) : partN c d = some i := by
  unfold partN
  rw [List.find?_range_eq_some]
  exact ⟨by rw [hn]; rfl, List.mem_range.mpr hi, fun j hj => by rw [h j hj]; rfl⟩
theorem partN_none {c d : Cn} (h : ∀ n, n < 256 → tellsSame c d n = true) : partN c d = none := by
  unfold partN
  rw [List.find?_eq_none]
  intro n hn
  rw [h n (List.mem_range.mp hn)]
  decide
theorem tellsSame_comm (c d : Cn) (n : Nat) : tellsSame c d n = tellsSame d c n := by
  unfold tellsSame
  rw [decide_eq_decide]
  exact ⟨fun h => ⟨h.1.symm, h.2.symm⟩, fun h => ⟨h.1.symm, h.2.symm⟩⟩
theorem partN_comm (c d : Cn) : partN c d = partN d c := by
  unfold partN
  congr 1
  funext n
  rw [tellsSame_comm]
def sameWorth (c d : Cn) : Bool := (List.range 256).all fun n : Nat => decide (c.val (wsOf n) = d.val (wsOf n))
theorem partD_nice (c d : Cn) (h : c.looks ≤ 1000) (h' : d.looks ≤ 1000) : nice (partD c d) = true ∧ (partD c d).depth ≤ 4 := by
  unfold partD
  cases partN c d with
  | none => exact ⟨rfl, by simp [PyData.depth]⟩
  | some n =>
    have h1 := wD_nice (wsOf n) (by show 8 ≤ 1000; decide)
    have h2 := told_nice c (wsOf n) h
    have h3 := told_nice d (wsOf n) h'
    refine ⟨by simp [nice, niceAll, h1.1, h2.1, h3.1], ?_⟩
    rw [depth_tuple]
    have h4 : PyData.depthAll [wD (wsOf n), toldD c (wsOf n), toldD d (wsOf n)] ≤ 3 := depthAll_le fun e he => by
      simp only [List.mem_cons, List.not_mem_nil, or_false] at he
      rcases he with rfl | rfl | rfl <;> omega
    omega
/-! ### loops with a state -/
section
variable {T : Sto} {s : T.S} {ρ : DEnv} {R : PyData → T.S → Prop} {N : DEnv → T.S → Prop} {g : TG} {tb : TS} {tl : TE} {ta : TA} {K : PySem.W.Frag}
theorem ws_for_rangeX {α : Type} (C : α → DEnv) (J : Nat → α → Prop) (a0 : α) (h : WA T ta s ρ fun xs s1 => ∃ n : Int, xs = [.int n] ∧ n ≤ 1000000 ∧ -1000000 ≤ n ∧ LeE (C a0) ρ ∧ J 0 a0 ∧
      (∀ (i : Nat) s' a, (i : Int) < n → J i a → WG T g (.int (i : Int)) s' (C a) fun ρ2 s2 => WS T tb s2 ρ2 R fun ρ' _ => ∃ a', J (i + 1) a' ∧ LeE (C a') ρ') ∧ ∀ s' a, J n.toNat a → N (C a) s') : WS T (tFor (iRng1 ta) g tb) s ρ R N := by
  refine ws_ends (N' := N) (ws_for_range fun A0 H0 B σ H c Q k => h A0 H0 B σ H c Q fun vs H' xs s1 ⟨n, e, h1, h2, le, j0, hs, q⟩ => k vs H' xs s1 ⟨n, e, h1, h2, fun i ρ' _ => ∃ a, J i a ∧ LeE (C a) ρ', ⟨a0, j0, le⟩, fun i ρ' s' hi ⟨a, hj, le'⟩ => ?_, fun ρ' s' ⟨a, hj, le'⟩ => ⟨_, le', q s' a hj⟩⟩)
  exact fun A0 H0 B σ H c v d' Q k => hs i s' a hi hj A0 H0 B σ H (c.weak le') v d' Q k
theorem ws_for_listX {α : Type} (C : α → DEnv) (J : Nat → α → Prop) (a0 : α) (h : WE T tl s ρ fun x s1 => ∃ ds, x = .list ds ∧ LeE (C a0) ρ ∧ J 0 a0 ∧ (∀ (i : Nat) d s' a, ds[i]? = some d → J i a → WG T g d s' (C a) fun ρ2 s2 => WS T tb s2 ρ2 R fun ρ' _ => ∃ a', J (i + 1) a' ∧ LeE (C a') ρ') ∧ ∀ s' a, J ds.length a → N (C a) s') :
    WS T (tFor (iSeq K tl) g tb) s ρ R N := by
  refine ws_ends (N' := N) (ws_for_list (WE.mono h fun x s1 ⟨ds, e, le, j0, hs, q⟩ => ⟨ds, e, fun i ρ' _ => ∃ a, J i a ∧ LeE (C a) ρ', ⟨a0, j0, le⟩, fun i d ρ' s' hi ⟨a, hj, le'⟩ => ?_, fun ρ' s' ⟨a, hj, le'⟩ => ⟨_, le', q s' a hj⟩⟩))
  exact fun A0 H0 B σ H c v d' Q k => hs i d s' a hi hj A0 H0 B σ H (c.weak le') v d' Q k
end
/-! ### the same, going over numbers -/
def dueAt (c d : Cn) (i : Nat) : PyData := match (List.range i).find? fun n => !tellsSame c d n with
  | none => .none
  | some n => .tuple [wD (wsOf n), toldD c (wsOf n), toldD d (wsOf n)]
theorem dueAt_end (c d : Cn) : dueAt c d 256 = partD c d := rfl
theorem dueAt_step (c d : Cn) (i : Nat) : dueAt c d (i + 1) = if isNoneD (dueAt c d i) && !tellsSame c d i then .tuple [wD (wsOf i), toldD c (wsOf i), toldD d (wsOf i)] else dueAt c d i := by
  unfold dueAt
  rw [List.range_succ, List.find?_append]
  cases e : (List.range i).find? fun n => !tellsSame c d n with
  | some n => simp [isNoneD]
  | none =>
    cases h : tellsSame c d i <;> simp [isNoneD, h]
def sameAt (c d : Cn) (i : Nat) : Bool := (List.range i).all fun n : Nat => decide (c.val (wsOf n) = d.val (wsOf n))
theorem sameAt_end (c d : Cn) : sameAt c d 256 = sameWorth c d := rfl
theorem sameAt_step (c d : Cn) (i : Nat) : sameAt c d (i + 1) = (sameAt c d i && decide (c.val (wsOf i) = d.val (wsOf i))) := by
  unfold sameAt
  rw [List.range_succ, List.all_append]
  simp
theorem partD_comm (c d : Cn) : partD d c = match partN c d with
  | none => .none
  | some n => .tuple [wD (wsOf n), toldD d (wsOf n), toldD c (wsOf n)] := by
  unfold partD
  rw [partN_comm d c]
theorem isNone_part (c d : Cn) : isNoneD (partD c d) = (partN c d).isNone := by unfold partD; cases partN c d <;> rfl
/-- what is told may be changed, if there is something -/
theorem mut_append2 {K : PySem.W.Frag} {i : Nat} {a b n : Int} {ds es ys : List PyData} (h1 : atI ds a = some (.tuple es)) (h2 : atI es b = some (.list ys)) (hl : ys.length < 100000) : MutOk (tDrop (tBM K "list" rAppend (tOp (rIx K) (tOp (rIx K) (tVar i) (tC (.int a))) (tC (.int b))) (tCons (tC (.int n)) tNil))) i (.tuple ds) := fun G v σ H D hv d e _ k => by
  cases d with
  | tup ha hs =>
    obtain ⟨u, q1, q2⟩ := hs.at_ h1
    cases q2 with
    | tup hb hu =>
      obtain ⟨u2, q3, q4⟩ := hu.at_ h2
      cases q4 with
      | @lst p us _ hp hw =>
        exact ⟨_, hv, .inr (.inl ⟨_, _, a, .ref _, rfl, rfl, SqT.of (e _ _ ha), q1, .inr (.inl ⟨_, _, b, .ref p, rfl, rfl, SqT.of (e _ _ hb), q3, Or.inl ⟨rfl, _, SqL.of (e _ _ hp)⟩, ⟨p, us, _, rfl, rfl, e _ _ hp, Nat.lt_of_lt_of_le (by rw [hw.len]; exact hl) (by decide), k p us _ hp⟩⟩)⟩)⟩
theorem mut_ifSome {tm : TS} {i : Nat} {x : PyData} (h : isNoneD x = false → MutOk tm i x) : MutOk (tIfS (tTest (tOp rNotN (tVar i) (tC .non))) tm tNext) i x := fun G v σ H D hv d e n k => by
  refine ⟨v, hv, rfl, _, rfl, ?_⟩
  have q := d.isN
  rw [q]
  cases z : isNoneD x with
  | true => exact n
  | false => exact h z G v σ H D hv d e n k
/-! and, both sides known -/
section
variable {T : Sto} {s : T.S} {ρ : DEnv} {Φ : PyData → T.S → Prop} {Ψ : Bool → T.S → Prop} {t u : TT} {ta tb : TE}
theorem wp_andV2 (h : WE T ta s ρ fun x s1 => ∃ b, x = .bool b ∧ ∃ b2, (b = true → WE T tb s1 ρ fun y s2 => y = .bool b2 ∧ s2 = s1) ∧ Φ (.bool (b && b2)) s1) : WE T (tAndV ta tb) s ρ Φ :=
  wp_andV (WE.mono h fun x s1 ⟨b, e, b2, h1, h2⟩ => ⟨b, e, by
    cases b with
    | true => exact WE.mono (h1 rfl) fun y s2 ⟨e1, e2⟩ => by rw [e1, e2]; exact h2
    | false => exact h2⟩)
theorem wt_and2 (h : WT T t s ρ fun b s1 => ∃ b2, (b = true → WT T u s1 ρ fun c s2 => c = b2 ∧ s2 = s1) ∧ Ψ (b && b2) s1) : WT T (tAnd t u) s ρ Ψ :=
  wt_and fun A0 H0 B σ H c Q k => h A0 H0 B σ H c Q fun b H' s1 ⟨b2, h1, h2⟩ e a => k b H' s1 (by
    cases b with
    | true => exact fun A0 H0 B σ H c Q k => h1 rfl A0 H0 B σ H c Q fun b' H' s2 ⟨e1, e2⟩ e a => k b' H' s2 (by rw [e1, e2]; exact h2) e a
    | false => exact h2) e a
end
end J

namespace J
open PySem L2
/-! ### all worths -/
def allB : Nat → List (List Int)
  | 0 => [[]]
  | k + 1 => (allB k).flatMap fun w => [w ++ [0], w ++ [1]]
def AW : List (List Int) := (List.range 256).map fun n : Nat => wsOf (n : Int)
theorem allB_8 : allB 8 = AW := by decide +kernel
theorem allB_len : ∀ k, (allB k).length = 2 ^ k
  | 0 => rfl
  | k + 1 => by
    have h : ∀ l : List (List Int), (l.flatMap fun w => [w ++ [0], w ++ [1]]).length = l.length * 2 := fun l => by
      induction l with
      | nil => rfl
      | cons a r ih => rw [List.flatMap_cons, List.length_append, ih]; show 2 + _ = (r.length + 1) * 2; omega
    show ((allB k).flatMap _).length = _
    rw [h, allB_len k, Nat.pow_succ]
theorem allB_item : ∀ k, ∀ w ∈ allB k, w.length = k
  | 0, w, h => by simp [allB] at h; rw [h]; rfl
  | k + 1, w, h => by
    obtain ⟨v, hv, h⟩ := List.mem_flatMap.mp h
    have := allB_item k v hv
    simp only [List.mem_cons, List.not_mem_nil, or_false] at h
    rcases h with rfl | rfl <;> simp [this]
theorem AW_get {i : Nat} {d : PyData} (h : (AW.map wD)[i]? = some d) : i < 256 ∧ d = wD (wsOf i) := by
  have hi := (List.getElem?_eq_some_iff.mp h).1
  have hl : (AW.map wD).length = 256 := by simp [AW]
  rw [hl] at hi
  unfold AW at h
  rw [List.getElem?_map, List.getElem?_map, List.getElem?_range hi] at h
  exact ⟨hi, (Option.some.inj h).symm⟩
/-! ### a written tuple of the module -/
def KTup (K : PySem.W.Frag) (a : Addr) (xs : List V) : Prop := ∃ (o : Obj) (its : Array Value) (n : Nat), K.lookup a = some o ∧ o.cls = .type "tuple" ∧ o.data = .seq its n ∧ its.size ≤ sizeLine ∧ Vals xs its.toList
theorem KTup.at_ {K : PySem.W.Frag} {a : Addr} {xs : List V} {H : Hp} (h : KTup K a xs) : SqT K H a xs := .inr h
section
variable {T : Sto} {s : T.S} {ρ : DEnv} {Φ : PyData → T.S → Prop} {te : TE} {K : PySem.W.Frag} {a : Addr}
theorem wp_inK {x1 x2 : Str} (kp : KTup K a [.str x1, .str x2]) (h : WE T te s ρ fun x s1 => ∃ w : Str, x = .str w ∧ Φ (.bool (x1 == w || x2 == w)) s1) : WE T (tOp (rInU K) te (tC (.ref a))) s ρ Φ := fun A0 H0 B σ H c Q k =>
  h A0 H0 B σ H c _ fun v H1 x s1 ⟨w, e, q⟩ e1 a1 d1 => by
    subst e
    cases d1
    refine .inl ⟨a, _, rfl, .inr kp.at_, rfl, rfl, ?_⟩
    have e : inV (.str w) [.str x1, .str x2] = (x1 == w || x2 == w) := by
      show ((x1 == w) || ((x2 == w) || false)) = _
      rw [Bool.or_false]
    show Q (.bl (inV (.str w) [.str x1, .str x2])) H1
    rw [e]
    exact k _ H1 _ s1 q e1 a1 (.bl _)
end
/-! ### sides exchanged -/
theorem Cn.pairs_looks : ∀ c : Cn, c.pairs + 1 = c.looks
  | .look _ => rfl
  | .nt c => c.pairs_looks
  | .pr _ x y => by have := x.pairs_looks; have := y.pairs_looks; show x.pairs + y.pairs + 1 + 1 = x.looks + y.looks; omega
def Cn.turn : Cn → List Int → Cn
  | .look i, _ => .look i
  | .nt c, ts => .nt (c.turn ts)
  | .pr b x y, ts => if ts.headD 0 = 1 then .pr b (y.turn (ts.drop (1 + x.pairs))) (x.turn (ts.drop 1)) else .pr b (x.turn (ts.drop 1)) (y.turn (ts.drop (1 + x.pairs)))
theorem Cn.turn_cons (b : Bool) (x y : Cn) (t : Int) (ts : List Int) : (Cn.pr b x y).turn (t :: ts) = if t = 1 then .pr b (y.turn (ts.drop x.pairs)) (x.turn ts) else .pr b (x.turn ts) (y.turn (ts.drop x.pairs)) := by
  rw [Cn.turn, Nat.add_comm 1 x.pairs]
  rfl
theorem Cn.turn_all : ∀ (c : Cn) (ts : List Int), (c.turn ts).looks = c.looks ∧ (c.turn ts).pairs = c.pairs ∧ (c.turn ts).deep = c.deep ∧ (c.ok → (c.turn ts).ok)
  | .look _, _ => ⟨rfl, rfl, rfl, fun z => z⟩
  | .nt c, ts => by
    obtain ⟨h1, h2, h3, h4⟩ := c.turn_all ts
    exact ⟨h1, h2, by show (c.turn ts).deep + 1 = c.deep + 1; rw [h3], h4⟩
  | .pr b x y, ts => by
    obtain ⟨h1, h2, h3, h4⟩ := x.turn_all (ts.drop 1)
    obtain ⟨g1, g2, g3, g4⟩ := y.turn_all (ts.drop (1 + x.pairs))
    unfold Cn.turn
    split
    · refine ⟨?_, ?_, ?_, fun z => ⟨g4 z.2, h4 z.1⟩⟩
      · show (y.turn _).looks + (x.turn _).looks = x.looks + y.looks; omega
      · show (y.turn _).pairs + (x.turn _).pairs + 1 = x.pairs + y.pairs + 1; omega
      · show max (y.turn _).deep (x.turn _).deep + 1 = max x.deep y.deep + 1; omega
    · refine ⟨?_, ?_, ?_, fun z => ⟨h4 z.1, g4 z.2⟩⟩
      · show (x.turn _).looks + (y.turn _).looks = x.looks + y.looks; omega
      · show (x.turn _).pairs + (y.turn _).pairs + 1 = x.pairs + y.pairs + 1; omega
      · show max (x.turn _).deep (y.turn _).deep + 1 = max x.deep y.deep + 1; omega
theorem Cn.turn_take : ∀ (c : Cn) (ts : List Int) (n : Nat), c.pairs ≤ n → c.turn (ts.take n) = c.turn ts
  | .look _, _, _, _ => rfl
  | .nt c, ts, n, h => by show Cn.nt _ = Cn.nt _; rw [c.turn_take ts n h]
  | .pr b x y, ts, n, h => by
    have h : x.pairs + y.pairs + 1 ≤ n := h
    have e1 : x.turn ((ts.take n).drop 1) = x.turn (ts.drop 1) := by rw [List.drop_take]; exact x.turn_take _ _ (by omega)
    have e2 : y.turn ((ts.take n).drop (1 + x.pairs)) = y.turn (ts.drop (1 + x.pairs)) := by rw [List.drop_take]; exact y.turn_take _ _ (by omega)
    have e3 : (ts.take n).headD 0 = ts.headD 0 := by
      cases ts with
      | nil => simp
      | cons t r => cases n with
        | zero => omega
        | succ n => rfl
    unfold Cn.turn
    rw [e1, e2, e3]
theorem Cn.turn_not : ∀ (c : Cn) (ts : List Int), (∀ t ∈ ts, t ≠ 1) → c.turn ts = c
  | .look _, _, _ => rfl
  | .nt c, ts, h => by show Cn.nt _ = _; rw [c.turn_not ts h]
  | .pr b x y, ts, h => by
    unfold Cn.turn
    have h0 : ¬ ts.headD 0 = 1 := by
      cases ts with
      | nil => exact fun z => by cases z
      | cons t r => exact h t (List.mem_cons_self ..)
    rw [if_neg h0, x.turn_not _ fun t ht => h t (List.mem_of_mem_drop ht), y.turn_not _ fun t ht => h t (List.mem_of_mem_drop ht)]
/-! ### chances -/
structure Cs (cs : List Int) : Prop where
  len : cs.length = 8
  up : ∀ c ∈ cs, 0 ≤ c ∧ c ≤ 100
def getI (l : List Int) (i : Nat) : Int := l.getD i 0
theorem at_getI {l : List Int} {i : Nat} (h : i < l.length) : atI (l.map PyData.int) (i : Int) = some (.int (getI l i)) ∧ getI l i ∈ l := by
  have e : l[i]? = some l[i] := List.getElem?_eq_getElem h
  have e2 : getI l i = l[i] := by unfold getI; rw [List.getD_eq_getElem?_getD, e]; rfl
  rw [e2]
  exact ⟨atI_nat (by rw [List.getElem?_map, e]; rfl), List.getElem_mem h⟩
def fac (cs ws : List Int) (k : Nat) : Int := if getI ws k = 1 then getI cs k else 100 - getI cs k
def timesTo (cs ws : List Int) : Nat → Int
  | 0 => 1
  | k + 1 => timesTo cs ws k * fac cs ws k
def times (cs ws : List Int) : Int := timesTo cs ws 8
theorem fac_le {cs ws : List Int} (h : Cs cs) {k : Nat} (hk : k < 8) : 0 ≤ fac cs ws k ∧ fac cs ws k ≤ 100 := by
  have := h.up _ (at_getI (l := cs) (i := k) (by rw [h.len]; exact hk)).2
  unfold fac
  split <;> omega
theorem timesTo_nonneg {cs ws : List Int} (h : Cs cs) : ∀ k, k ≤ 8 → 0 ≤ timesTo cs ws k
  | 0, _ => (show (0 : Int) ≤ 1 by decide)
  | k + 1, hk => Int.mul_nonneg (timesTo_nonneg h k (by omega)) (fac_le h (by omega)).1
/-- worths, and how many times they come -/
def wt (cs : List Int) (n : Nat) : List Int × Int := (wsOf (n : Int), times cs (wsOf (n : Int)))
def wts (cs : List Int) : List (List Int × Int) := ((List.range 256).map (wt cs)).filter fun p => decide (0 < p.2)
def wtD (p : List Int × Int) : PyData := .tuple [wD p.1, .int p.2]
theorem wts_ws {cs : List Int} {p : List Int × Int} (h : p ∈ wts cs) : Ws p.1 := by
  obtain ⟨n, _, rfl⟩ := List.mem_map.mp (List.mem_filter.mp h).1
  exact wsOf_ws _
theorem wts_len (cs : List Int) : (wts cs).length ≤ 256 := Nat.le_trans (List.length_filter_le _ _) (by simp)
/-- a sum over all worths -/
def sumTo (f : Nat → Int) (n : Nat) : Int := ((List.range n).map f).sum
theorem sumTo_zero (f : Nat → Int) : sumTo f 0 = 0 := rfl
theorem sumTo_succ (f : Nat → Int) (n : Nat) : sumTo f (n + 1) = sumTo f n + f n := by
  unfold sumTo
  rw [List.range_succ, List.map_append, List.sum_append]
  simp
theorem sum_filter {cs : List Int} (h : Cs cs) (g : List Int → Int) : ((wts cs).map fun p => p.2 * g p.1).sum = sumTo (fun n => times cs (wsOf (n : Int)) * g (wsOf (n : Int))) 256 := by
  unfold sumTo wts
  have key : ∀ l : List Nat, (((l.map (wt cs)).filter fun p => decide (0 < p.2)).map fun p => p.2 * g p.1).sum = (l.map fun n : Nat => times cs (wsOf (n : Int)) * g (wsOf (n : Int))).sum := fun l => by
    induction l with
    | nil => rfl
    | cons n r ih =>
      rw [List.map_cons, List.map_cons, List.sum_cons, ← ih]
      by_cases z : 0 < times cs (wsOf (n : Int))
      · rw [List.filter_cons, if_pos (by exact decide_eq_true z), List.map_cons, List.sum_cons]
        rfl
      · have z0 : times cs (wsOf (n : Int)) = 0 := by
          have := timesTo_nonneg (ws := wsOf (n : Int)) h 8 (Nat.le_refl _)
          unfold times at z ⊢
          omega
        rw [List.filter_cons, if_neg (by show ¬ decide (0 < times cs (wsOf (n : Int))) = true; rw [decide_eq_true_eq]; exact z), z0, Int.zero_mul, Int.zero_add]
  exact key _
def looksF (c : Cn) (ws : List Int) : Int := ((c.seen ws).length : Int)
def jumpsF (c : Cn) (f : Int) (ws : List Int) : Int := (runOf (c.rows0 f) ws).2.2
def looksN (c : Cn) (cs : List Int) : Int := ((wts cs).map fun p => p.2 * looksF c p.1).sum
def jumpsN (c : Cn) (f : Int) (cs : List Int) : Int := ((wts cs).map fun p => p.2 * jumpsF c f p.1).sum
def unWt : PyData → List Int × Int
  | .tuple [w, .int t] => (unW w, t)
  | _ => ([], 0)
theorem unWt_D (p : List Int × Int) : unWt (wtD p) = p := by
  show (unW (wD p.1), p.2) = p
  rw [unW_D]
theorem map_wt (l : List (List Int × Int)) (g : List Int × Int → Int) : (l.map wtD).map (fun d => PyData.int (g (unWt d))) = (l.map g).map PyData.int := by
  rw [List.map_map, List.map_map]
  exact List.map_congr_left fun p _ => by show PyData.int (g (unWt (wtD p))) = _; rw [unWt_D]; rfl
/-! ### lists of one's own, changed at a place, given out -/
section
variable {T : Sto} {A0 : Addr → Prop} {H0 : Hp} {B : Addr → Prop} {σ : L2.St} {H : Hp} {s : T.S} {ρ : DEnv} {i j : Nat} {xs : List PyData}
theorem ixN_j {n j : Nat} (h : j < n) : ixN n (j : Int) = some j := by
  unfold ixN
  rw [if_pos (by omega), if_pos (by omega)]
  rfl
theorem DDs.set_ {H : Hp} : ∀ {vs : List V} {ds : List PyData} (j : Nat) {v : V} {d : PyData}, DDs H vs ds → DD H v d → DDs H (vs.set j v) (ds.set j d)
  | [], _, _, _, _, h, _ => by cases h; exact .nil
  | u :: vs, _, 0, _, _, h, k => by
    cases h with
    | cons h1 h2 => exact .cons k h2
  | u :: vs, _, j + 1, _, _, h, k => by
    cases h with
    | cons h1 h2 => exact .cons h1 (DDs.set_ j h2 k)
theorem Cxt.own (c : Cxt T A0 H0 B σ H s ρ) (ho : ρ[i]? = some (some (.own xs))) : ∃ p vs, σ[i]? = some (some (.ref p)) ∧ H p = some (.lst vs) ∧ DDs (cut B H) vs xs ∧ ∀ us ys, DDs (cut B H) us ys → Cxt T A0 H0 B σ (upd H p (.lst us)) s (ρ.set i (some (.own ys))) := by
  obtain ⟨p, vs, h1, h2, h3, h5, h6, h7⟩ := c.sl i _ ho
  have hi := join_some h1
  refine ⟨p, vs, hi, h6, h7, fun us ys hu => ?_⟩
  have fr : Fr (fun a => a = p) H (upd H p (.lst us)) := fun b o q z => by rw [upd_ne z]; exact q
  have sc : Same (cut B H) (cut B (upd H p (.lst us))) := fr.cut fun b z => by rw [z]; exact h2
  have hil : i < ρ.length := (List.getElem?_eq_some_iff.mp ho).1
  have iso : ∀ (j : Nat) zs, (ρ.set i (some (.own ys)))[j]? = some (some (.own zs)) → ∃ zs, ρ[j]? = some (some (.own zs)) := fun j zs q => by
    rw [List.getElem?_set] at q
    by_cases e' : i = j
    · subst e'; exact ⟨_, ho⟩
    · rw [if_neg e'] at q; exact ⟨_, q⟩
  refine ⟨c.fb, fun b z => ?_, T.loc s H _ (fun b o hb q => ?_) c.at_, by rw [List.length_set]; exact c.ln, fun j w q => ?_, fun b o q z => ?_, c.ab, c.d0, c.ba, fun j k ys' zs q q1 q2 q3 q4 => ?_, c.ex⟩
  · by_cases e' : b = p
    · rw [e', upd_same]; exact fun z => nomatch z
    · rw [upd_ne e']; exact c.dm b z
  · rw [upd_ne fun z => h3 (by rw [← z]; exact hb)]; exact q
  · rw [List.getElem?_set] at q
    by_cases e' : i = j
    · subst e'
      rw [if_pos rfl, if_pos hil] at q
      cases q
      exact ⟨p, _, h1, h2, h3, h5, upd_same, DDs.mono sc _ _ hu⟩
    · rw [if_neg e'] at q
      have z := c.sl j w q
      cases w with
      | d x => obtain ⟨v, z1, z2⟩ := z; exact ⟨v, z1, DD.mono sc _ _ z2⟩
      | v x => exact z
      | own ys =>
        obtain ⟨p', vs', z1, z2, z3, z5, z6, z7⟩ := z
        have np : p' ≠ p := fun zz => by
          subst zz
          exact c.ow i j xs ys p' ho q e' hi (join_some z1)
        exact ⟨p', vs', z1, z2, z3, z5, by rw [upd_ne np]; exact z6, DDs.mono sc _ _ z7⟩
  · rw [upd_ne fun zz => by rw [zz, h5] at q; cases q]
    exact c.fr b o q z
  · obtain ⟨ys1, y1⟩ := iso j ys' q1
    obtain ⟨zs1, y2⟩ := iso k zs q2
    exact c.ow j k ys1 zs1 q y1 y2 q3 q4
theorem Cxt.pub (c : Cxt T A0 H0 B σ H s ρ) (ho : ρ[j]? = some (some (.own xs))) : ∃ B', Cxt T A0 H0 B' σ H s (ρ.set j (some (.d (.list xs)))) := by
  obtain ⟨p, vs, h1, h2, h3, h5, h6, h7⟩ := c.sl j _ ho
  have hj := join_some h1
  have hil : j < ρ.length := (List.getElem?_eq_some_iff.mp ho).1
  have sc : Same (cut B H) (cut (fun a => B a ∧ a ≠ p) H) := cut_mono fun a z => z.1
  have dp : DD (cut (fun a => B a ∧ a ≠ p) H) (.ref p) (.list xs) := .lst (cut_of h6 fun z => z.2 rfl) (DDs.mono sc _ _ h7)
  have own : ∀ (k : Nat) ys, (ρ.set j (some (.d (.list xs))))[k]? = some (some (.own ys)) → j ≠ k ∧ ρ[k]? = some (some (.own ys)) := fun k ys q => by
    rw [List.getElem?_set] at q
    by_cases e : j = k
    · rw [if_pos e, if_pos hil] at q; cases q
    · rw [if_neg e] at q; exact ⟨e, q⟩
  refine ⟨fun a => B a ∧ a ≠ p, ⟨fun a z => ⟨c.fb a z, fun zz => h3 (by rw [← zz]; exact z)⟩, fun a z => c.dm a z.1, c.at_, by rw [List.length_set]; exact c.ln, fun k w q => ?_, c.fr, fun a z => ⟨c.ab a z, fun zz => c.d0 a z (by rw [zz]; exact h5)⟩, c.d0, fun a z => c.ba a z.1, fun k l ys zs q q1 q2 q3 q4 => ?_, c.ex⟩⟩
  · rw [List.getElem?_set] at q
    by_cases e : j = k
    · rw [if_pos e, if_pos hil] at q
      cases q
      exact ⟨.ref p, by rw [← e]; exact h1, dp⟩
    · rw [if_neg e] at q
      have z := c.sl k w q
      cases w with
      | d x => obtain ⟨v, z1, z2⟩ := z; exact ⟨v, z1, DD.mono sc _ _ z2⟩
      | v x => exact z
      | own ys =>
        obtain ⟨p', vs', z1, z2, z3, z5, z6, z7⟩ := z
        have np : p' ≠ p := fun zz => by
          subst zz
          exact c.ow j k xs ys p' ho q e hj (join_some z1)
        exact ⟨p', vs', z1, ⟨z2, np⟩, z3, z5, z6, DDs.mono sc _ _ z7⟩
  · obtain ⟨_, y1⟩ := own k ys q1
    obtain ⟨_, y2⟩ := own l zs q2
    exact c.ow k l ys zs q y1 y2 q3 q4
end
section
variable {T : Sto} {s : T.S} {ρ : DEnv} {R : PyData → T.S → Prop} {N : DEnv → T.S → Prop} {te ti : TE} {t : TS} {i j : Nat} {xs : List PyData}
/-- x[i] = e, x a list of one's own -/
theorem ws_setI (ho : ρ[i]? = some (some (.own xs))) (h : WE T te s ρ fun x s1 => WE T ti s1 ρ fun y s2 => ∃ j : Nat, y = .int (j : Int) ∧ j < xs.length ∧ N (ρ.set i (some (.own (xs.set j x)))) s2) :
    WS T (tAsg te (gSub (tVar i) ti rSetL)) s ρ R N := fun A0 H0 B σ H c D r n => by
  obtain ⟨p, vs0, hi, _, _, _⟩ := c.own ho
  refine h A0 H0 B σ H c _ fun v H1 x s1 h1 e1 a1 d1 => ⟨_, hi, h1 A0 H0 B σ H1 (c.step e1 a1) _ fun u H2 y s2 ⟨j, ey, hj, f⟩ e2 a2 d2 => ?_⟩
  subst ey
  cases d2
  obtain ⟨p', vs, q1, q2, q3, q4⟩ := ((c.step e1 a1).step e2 a2).own ho
  rw [hi] at q1
  cases q1
  exact ⟨p, vs, _, j, rfl, rfl, q2, ixN_j (by rw [q3.len]; exact hj), n B σ _ s2 _ f (q4 _ _ (DDs.set_ j q3 (DD.mono (e2.cut c.fb) _ _ d1)))⟩
/-- from here on a list of one's own is data -/
theorem ws_pub (ho : ρ[j]? = some (some (.own xs))) (h : WS T t s (ρ.set j (some (.d (.list xs)))) R N) : WS T t s ρ R N := fun A0 H0 B σ H c D r n => by
  obtain ⟨B', c'⟩ := c.pub ho
  exact h A0 H0 B' σ H c' D r n
end
/-! ### comprehensions with draws -/
section
variable {T : Sto} {s : T.S} {ρ : DEnv} {te : TE} {vs : List Nat} {Φ : PyData → T.S → Prop} {g : TG} {ta : TA}
theorem wp_lcP_range (P : PyData → Prop) (gi : GIn g vs) (h : WA T ta s ρ fun xs s1 => ∃ n : Nat, xs = [.int (n : Int)] ∧ n ≤ 10000 ∧ (∀ (i : Nat) s', i < n → WG T g (.int (i : Int)) s' (wipeE ρ vs) fun ρ2 s2 => WE T te s2 ρ2 fun y _ => P y) ∧ ∀ ys s', ys.length = n → (∀ y ∈ ys, P y) → Φ (.list ys) s') :
    WE T (tLc (iRng1 ta) g tYes te vs) s ρ Φ := wp_lc_range gi fun A0 H0 B σ H c Q k => h A0 H0 B σ H c Q fun us H' xs s1 ⟨n, e, hn, hs, q⟩ => k us H' xs s1 ⟨(n : Int), e, by omega, by omega, fun i acc s' => acc.length = i ∧ ∀ y ∈ acc, P y, ⟨rfl, fun _ z => nomatch z⟩, fun i acc s' hi ⟨e1, e2⟩ => by
      have hlen : acc.length < 100000 := by rw [e1]; omega
      intro A0 H0 B σ H c v hv Q k
      refine hs i s' (by omega) A0 H0 B σ H c v hv Q fun σ' ρ' hw c' => k σ' ρ' ?_ c'
      refine wt_yes ?_
      show WE T te _ ρ' _
      refine WE.mono hw fun y s4 hy => ⟨hlen, by rw [List.length_append, e1]; rfl, fun z hz => ?_⟩
      rcases List.mem_append.mp hz with hz | hz
      · exact e2 z hz
      · rw [List.mem_singleton.mp hz]; exact hy, fun acc s' ⟨e1, e2⟩ => q acc s' (by omega) e2⟩
theorem ints_of {P : Int → Prop} : ∀ {ys : List PyData}, (∀ y ∈ ys, ∃ i : Int, y = .int i ∧ P i) → ∃ ns : List Int, ys = ns.map .int ∧ ∀ n ∈ ns, P n
  | [], _ => ⟨[], rfl, fun _ z => nomatch z⟩
  | y :: ys, h => by
    obtain ⟨i, rfl, hi⟩ := h y (List.mem_cons_self ..)
    obtain ⟨ns, rfl, hn⟩ := ints_of fun z hz => h z (List.mem_cons_of_mem _ hz)
    refine ⟨i :: ns, rfl, fun n hm => ?_⟩
    rcases List.mem_cons.mp hm with rfl | hm
    · exact hi
    · exact hn n hm
theorem zeros (n : Nat) : (List.replicate n [PyData.int 0]).flatten = (List.replicate n (0 : Int)).map .int := by
  induction n with
  | zero => rfl
  | succ n ih => rw [List.replicate_succ, List.replicate_succ, List.flatten_cons, ih]; rfl
theorem at_fac {c w : Int} (h : w = 0 ∨ w = 1) : atI [PyData.int (100 - c), .int c] w = some (.int (if w = 1 then c else 100 - c)) := by
  rcases h with rfl | rfl <;> rfl
end
end J

namespace J
open PySem L2
/-! ### the contrary -/
def Cn.dual : Cn → Cn
  | .look i => .nt (.look i)
  | .nt c => .nt c.dual
  | .pr b x y => .pr (!b) x.dual y.dual
theorem Cn.dual_all : ∀ c : Cn, c.dual.looks = c.looks ∧ c.dual.deep ≤ c.deep + 1 ∧ (c.ok → c.dual.ok)
  | .look _ => ⟨rfl, Nat.le_refl _, fun z => z⟩
  | .nt c => by
    obtain ⟨h1, h2, h3⟩ := c.dual_all
    exact ⟨h1, Nat.succ_le_succ h2, h3⟩
  | .pr b x y => by
    obtain ⟨h1, h2, h3⟩ := x.dual_all
    obtain ⟨g1, g2, g3⟩ := y.dual_all
    refine ⟨?_, ?_, fun z => ⟨h3 z.1, g3 z.2⟩⟩
    · show x.dual.looks + y.dual.looks = x.looks + y.looks; omega
    · show max x.dual.deep y.dual.deep + 1 ≤ max x.deep y.deep + 1 + 1; omega
theorem Cn.dual_is {ws : List Int} (hw : Ws ws) : ∀ c : Cn, c.ok → c.dual.val ws = 1 - c.val ws ∧ c.dual.seen ws = c.seen ws
  | .look _, _ => ⟨rfl, rfl⟩
  | .nt c, ok => by
    obtain ⟨h1, h2⟩ := c.dual_is hw ok
    exact ⟨by show 1 - c.dual.val ws = 1 - (1 - c.val ws); rw [h1], h2⟩
  | .pr b x y, ok => by
    obtain ⟨h1, h2⟩ := x.dual_is hw ok.1
    obtain ⟨g1, g2⟩ := y.dual_is hw ok.2
    have hx := x.val_bit hw ok.1
    have hs : stops (!b) = 1 - stops b := by cases b <;> rfl
    by_cases h : x.val ws = stops b
    · have h' : x.dual.val ws = stops (!b) := by omega
      rw [(Cn.pr_stop h).1, (Cn.pr_stop h).2]
      exact ⟨(Cn.pr_stop h').1.trans h1, (Cn.pr_stop h').2.trans h2⟩
    · have h' : ¬ x.dual.val ws = stops (!b) := by omega
      rw [(Cn.pr_go h).1, (Cn.pr_go h).2]
      exact ⟨(Cn.pr_go h').1.trans g1, (Cn.pr_go h').2.trans (by rw [h2, g2])⟩
theorem Cn.dual_rows : ∀ (c : Cn) (b y n : Int), c.dual.rows b n y = c.rows b y n
  | .look _, _, _, _ => rfl
  | .nt c, b, y, n => c.dual_rows b n y
  | .pr true x d, b, y, n => by
    show x.dual.rows b n (b + x.dual.looks) ++ d.dual.rows (b + x.dual.looks) n y = x.rows b (b + x.looks) n ++ d.rows (b + x.looks) y n
    rw [x.dual_rows, d.dual_rows, x.dual_all.1]
  | .pr false x d, b, y, n => by
    show x.dual.rows b (b + x.dual.looks) y ++ d.dual.rows (b + x.dual.looks) n y = x.rows b y (b + x.looks) ++ d.rows (b + x.looks) y n
    rw [x.dual_rows, d.dual_rows, x.dual_all.1]
def Cn.contrary (c : Cn) : Cn := .nt c.dual
theorem Cn.contrary_code (c : Cn) (f : Int) : c.contrary.code f = c.code f := by
  have e : c.contrary.looks = c.looks := c.dual_all.1
  unfold Cn.code Cn.yes
  rw [e]
  show (c.dual.rows _ _ _).map Row.D ++ _ = _
  rw [c.dual_rows]
theorem Cn.nt_rows (c : Cn) {f : Int} (hf : f = 0 ∨ f = 1) : (Cn.nt c).rows0 (1 - f) = c.rows0 f := by
  have h1 := Cn.yes_is (c := c) hf
  have h2 := Cn.yes_is (c := .nt c) (f := 1 - f) (by omega)
  have e : (Cn.nt c).looks = c.looks := rfl
  show c.rows 0 (2 * (Cn.nt c).looks + 1 - (Cn.nt c).yes (1 - f)) ((Cn.nt c).yes (1 - f)) = c.rows 0 (c.yes f) (2 * c.looks + 1 - c.yes f)
  rw [e] at h2 ⊢
  have a1 : (2 * (c.looks : Int) + 1 - (Cn.nt c).yes (1 - f)) = c.yes f := by omega
  have a2 : (Cn.nt c).yes (1 - f) = 2 * (c.looks : Int) + 1 - c.yes f := by omega
  rw [a1, a2]
theorem partN_same {c d : Cn} (h : ∀ n : Nat, c.val (wsOf n) = d.val (wsOf n) ∧ c.seen (wsOf n) = d.seen (wsOf n)) : partN c d = none := partN_none fun n _ => decide_eq_true (h n)
theorem Cn.contrary_same {c : Cn} (ok : c.ok) : partN c c.contrary = none := partN_same fun n => by
  obtain ⟨h1, h2⟩ := c.dual_is (wsOf_ws (n : Int)) ok
  exact ⟨by show _ = 1 - c.dual.val _; omega, h2.symm⟩
theorem Cn.twice_same (c : Cn) : partN c (.nt (.nt c)) = none := partN_same fun n => ⟨by show _ = 1 - (1 - c.val _); omega, rfl⟩
theorem Cn.not_same {c : Cn} (ok : c.ok) : sameWorth c (.nt c) = false := by
  unfold sameWorth
  rw [List.all_eq_false]
  refine ⟨0, by simp, ?_⟩
  have := c.val_bit (wsOf_ws ((0 : Nat) : Int)) ok
  rw [decide_eq_true_eq]
  show ¬ c.val _ = 1 - c.val _
  omega
/-! ### other things -/
def R8 : List Int := (List.range 8).map fun i : Nat => (i : Int)
theorem R8_mem {i : Int} : i ∈ R8 ↔ 0 ≤ i ∧ i < 8 := by
  unfold R8
  rw [List.mem_map]
  constructor
  · rintro ⟨n, hn, rfl⟩
    have := List.mem_range.mp hn
    omega
  · intro h
    exact ⟨i.toNat, List.mem_range.mpr (by omega), by omega⟩
def firstAt (t : Int) : List Int → Nat
  | [] => 0
  | x :: r => if x = t then 0 else firstAt t r + 1
theorem firstAt_mem {t : Int} : ∀ {l : List Int}, t ∈ l → firstAt t l < l.length ∧ l[firstAt t l]? = some t ∧ ∀ (m : Nat) (z : Int), m < firstAt t l → l[m]? = some z → z ≠ t
  | [], h => nomatch h
  | x :: r, h => by
    unfold firstAt
    by_cases e : x = t
    · rw [if_pos e]
      exact ⟨Nat.zero_lt_succ _, by rw [← e]; rfl, fun m z hm => absurd hm (Nat.not_lt_zero _)⟩
    · rw [if_neg e]
      have hr : t ∈ r := by
        rcases List.mem_cons.mp h with h | h
        · exact absurd h.symm e
        · exact h
      obtain ⟨h1, h2, h3⟩ := firstAt_mem hr
      refine ⟨Nat.succ_lt_succ h1, h2, fun m z hm hz => ?_⟩
      cases m with
      | zero => cases hz; exact e
      | succ m => exact h3 m z (by omega) hz
theorem firstAt_nodup {t : Int} : ∀ {l : List Int} {k : Nat}, l.Nodup → l[k]? = some t → firstAt t l = k
  | [], k, _, h => by simp at h
  | x :: r, 0, _, h => by
    cases h
    unfold firstAt
    rw [if_pos rfl]
  | x :: r, k + 1, hn, h => by
    have h : r[k]? = some t := h
    obtain ⟨n1, n2⟩ := List.nodup_cons.mp hn
    have e : ¬ x = t := fun z => n1 (by rw [z]; exact List.mem_of_getElem? h)
    unfold firstAt
    rw [if_neg e, firstAt_nodup n2 h]
theorem getI_some {l : List Int} {i : Nat} (h : i < l.length) : l[i]? = some (getI l i) := by
  unfold getI
  rw [List.getD_eq_getElem?_getD, List.getElem?_eq_getElem h]
  rfl
theorem thingAt_is (l : List Int) (i : Int) : thingAt l i = getI l i.toNat := by
  unfold thingAt getI
  rw [List.getD_eq_getElem?_getD]
theorem getI_map {f : Nat → Int} {n i : Nat} (h : i < n) : getI ((List.range n).map f) i = f i := by
  unfold getI
  rw [List.getD_eq_getElem?_getD, List.getElem?_map, List.getElem?_range h]
  rfl
theorem list_ext {a b : List Int} {n : Nat} (ha : a.length = n) (hb : b.length = n) (h : ∀ i, i < n → getI a i = getI b i) : a = b := by
  apply List.ext_getElem?
  intro i
  by_cases hi : i < n
  · rw [getI_some (by omega), getI_some (by omega), h i hi]
  · rw [List.getElem?_eq_none (by omega), List.getElem?_eq_none (by omega)]
/-- the numbers 0 to 7 in some order -/
abbrev Nm (ns : List Int) : Prop := ns.Perm R8
section
variable {ns : List Int} (h : Nm ns)
include h
theorem Nm.len : ns.length = 8 := h.length_eq
theorem Nm.at_ {k : Nat} (hk : k < 8) : 0 ≤ getI ns k ∧ getI ns k < 8 := R8_mem.mp (h.mem_iff.mp (List.mem_of_getElem? (getI_some (by rw [Nm.len h]; exact hk))))
theorem Nm.mem {t : Nat} (ht : t < 8) : (t : Int) ∈ ns := h.mem_iff.mpr (R8_mem.mpr (by omega))
theorem Nm.nodup : ns.Nodup := h.nodup_iff.mpr (by decide +kernel)
end
/-- things by their other numbers, and back -/
def pull (ns ws : List Int) : List Int := (List.range 8).map fun k => getI ws (getI ns k).toNat
def push (ns cs : List Int) : List Int := (List.range 8).map fun t : Nat => getI cs (firstAt (t : Int) ns)
theorem push_at {ns : List Int} (h : Nm ns) (cs : List Int) {k : Nat} (hk : k < 8) : getI (push ns cs) (getI ns k).toNat = getI cs k := by
  have h1 := h.at_ hk
  unfold push
  rw [getI_map (by omega)]
  have e : (((getI ns k).toNat : Nat) : Int) = getI ns k := by omega
  rw [e, firstAt_nodup h.nodup (getI_some (by rw [h.len]; exact hk))]
theorem pull_at (ns ws : List Int) {k : Nat} (hk : k < 8) : getI (pull ns ws) k = getI ws (getI ns k).toNat := getI_map hk
theorem pull_push {ns ws : List Int} (h : Nm ns) (hl : ws.length = 8) : pull ns (push ns ws) = ws := list_ext (n := 8) (by simp [pull]) hl fun k hk => by rw [pull_at _ _ hk, push_at h _ hk]
theorem pull_inj {ns a b : List Int} (h : Nm ns) (ha : a.length = 8) (hb : b.length = 8) (e : pull ns a = pull ns b) : a = b := list_ext ha hb fun t ht => by
  obtain ⟨h1, h2, _⟩ := firstAt_mem (h.mem ht)
  have hk : firstAt (t : Int) ns < 8 := by rw [← h.len]; exact h1
  have e1 : getI ns (firstAt (t : Int) ns) = (t : Int) := by rw [getI_some h1] at h2; exact Option.some.inj h2
  have e2 := pull_at ns a hk
  have e3 := pull_at ns b hk
  rw [e1] at e2 e3
  rw [e, e3] at e2
  exact e2.symm
theorem pull_ws {ns ws : List Int} (h : Nm ns) (hw : Ws ws) : Ws (pull ns ws) := ⟨by simp [pull], fun w hm => by
  obtain ⟨k, hk, rfl⟩ := List.mem_map.mp hm
  have := h.at_ (List.mem_range.mp hk)
  exact hw.bit _ (at_getI (by rw [hw.len]; omega)).2⟩
theorem push_up {ns cs : List Int} (h : Nm ns) {P : Int → Prop} (hl : cs.length = 8) (hc : ∀ c ∈ cs, P c) : (push ns cs).length = 8 ∧ ∀ c ∈ push ns cs, P c := ⟨by simp [push], fun w hm => by
  obtain ⟨t, ht, rfl⟩ := List.mem_map.mp hm
  have h1 := (firstAt_mem (h.mem (List.mem_range.mp ht))).1
  rw [h.len] at h1
  exact hc _ (at_getI (by rw [hl]; exact h1)).2⟩
theorem allB_mem : ∀ (k : Nat) (w : List Int), w ∈ allB k ↔ w.length = k ∧ ∀ b ∈ w, b = 0 ∨ b = 1
  | 0, w => by
    show w ∈ [[]] ↔ _
    rw [List.mem_singleton]
    constructor
    · rintro rfl; exact ⟨rfl, fun _ z => nomatch z⟩
    · intro ⟨h, _⟩; exact List.eq_nil_of_length_eq_zero h
  | k + 1, w => by
    show w ∈ (allB k).flatMap _ ↔ _
    rw [List.mem_flatMap]
    constructor
    · rintro ⟨v, hv, hw⟩
      obtain ⟨h1, h2⟩ := (allB_mem k v).mp hv
      simp only [List.mem_cons, List.not_mem_nil, or_false] at hw
      rcases hw with rfl | rfl
      · refine ⟨by simp [h1], fun b hb => ?_⟩
        rcases List.mem_append.mp hb with hb | hb
        · exact h2 b hb
        · exact .inl (List.mem_singleton.mp hb)
      · refine ⟨by simp [h1], fun b hb => ?_⟩
        rcases List.mem_append.mp hb with hb | hb
        · exact h2 b hb
        · exact .inr (List.mem_singleton.mp hb)
    · intro ⟨h1, h2⟩
      have hne : w ≠ [] := fun z => by rw [z] at h1; cases h1
      have e := List.dropLast_concat_getLast hne
      refine ⟨w.dropLast, (allB_mem k _).mpr ⟨by rw [List.length_dropLast, h1]; rfl, fun b hb => h2 b ((List.dropLast_sublist w).subset hb)⟩, ?_⟩
      simp only [List.mem_cons, List.not_mem_nil, or_false]
      rcases h2 _ (List.getLast_mem hne) with z | z
      · left; rw [← z]; exact e.symm
      · right; rw [← z]; exact e.symm
theorem AW_mem {w : List Int} : w ∈ AW ↔ Ws w := by
  rw [← allB_8, allB_mem]
  exact ⟨fun ⟨a, b⟩ => ⟨a, b⟩, fun ⟨a, b⟩ => ⟨a, b⟩⟩
def toN (w : List Int) : Nat := w.foldl (fun a b => 2 * a + b.toNat) 0
theorem AW_toN : AW.map toN = List.range 256 := by decide +kernel
theorem AW_nodup : AW.Nodup := by
  have h : (AW.map toN).Nodup := by rw [AW_toN]; exact List.nodup_range
  exact (List.pairwise_map.mp h).imp fun ne e => ne (congrArg toN e)
theorem pull_perm {ns : List Int} (h : Nm ns) : (AW.map (pull ns)).Perm AW := by
  rw [List.perm_ext_iff_of_nodup ?_ AW_nodup]
  · intro w
    rw [List.mem_map]
    constructor
    · rintro ⟨v, hv, rfl⟩
      exact AW_mem.mpr (pull_ws h (AW_mem.mp hv))
    · intro hw
      have hw := AW_mem.mp hw
      obtain ⟨p1, p2⟩ := push_up h hw.len hw.bit
      exact ⟨push ns w, AW_mem.mpr ⟨p1, p2⟩, pull_push h hw.len⟩
  · unfold List.Nodup
    rw [List.pairwise_map]
    refine List.Pairwise.imp_of_mem (fun {a b} ha hb ne e => ne ?_) AW_nodup
    exact pull_inj h (AW_mem.mp ha).len (AW_mem.mp hb).len e
theorem perm_sum {a b : List Int} (h : a.Perm b) : a.sum = b.sum := by
  induction h with
  | nil => rfl
  | cons x _ ih => rw [List.sum_cons, List.sum_cons, ih]
  | swap x y l => simp only [List.sum_cons]; omega
  | trans _ _ i1 i2 => exact i1.trans i2
def prodL : List Int → Int
  | [] => 1
  | x :: r => x * prodL r
theorem perm_prod {a b : List Int} (h : a.Perm b) : prodL a = prodL b := by
  induction h with
  | nil => rfl
  | cons x _ ih => show x * _ = x * _; rw [ih]
  | swap x y l => show y * (x * prodL l) = x * (y * prodL l); rw [← Int.mul_assoc, ← Int.mul_assoc, Int.mul_comm y x]
  | trans _ _ i1 i2 => exact i1.trans i2
theorem prodL_snoc (a : List Int) (x : Int) : prodL (a ++ [x]) = prodL a * x := by
  induction a with
  | nil => show x * 1 = 1 * x; omega
  | cons y r ih => show y * prodL (r ++ [x]) = y * prodL r * x; rw [ih, Int.mul_assoc]
theorem timesTo_is (cs ws : List Int) : ∀ k, timesTo cs ws k = prodL ((List.range k).map (fac cs ws))
  | 0 => rfl
  | k + 1 => by
    rw [List.range_succ, List.map_append]
    show timesTo cs ws k * fac cs ws k = prodL (_ ++ [fac cs ws k])
    rw [prodL_snoc, timesTo_is cs ws k]
theorem times_push {ns cs ws : List Int} (h : Nm ns) : times (push ns cs) ws = times cs (pull ns ws) := by
  unfold times
  rw [timesTo_is, timesTo_is]
  have e1 : (List.range 8).map (fac (push ns cs) ws) = R8.map fun t => fac (push ns cs) ws t.toNat := by
    unfold R8
    rw [List.map_map]
    exact List.map_congr_left fun t _ => by show _ = fac _ _ ((t : Int)).toNat; rw [show ((t : Int)).toNat = t from by omega]
  have e2 : (List.range 8).map (fac cs (pull ns ws)) = ns.map fun t => fac (push ns cs) ws t.toNat := by
    have e3 : ns = (List.range 8).map (getI ns) := list_ext (n := 8) h.len (by simp) fun i hi => (getI_map hi).symm
    rw [e3, List.map_map, ← e3]
    exact List.map_congr_left fun k hk => by
      have hk := List.mem_range.mp hk
      show fac cs (pull ns ws) k = fac (push ns cs) ws (getI ns k).toNat
      unfold fac
      rw [pull_at _ _ hk, push_at h _ hk]
  rw [e1, e2]
  exact perm_prod (h.symm.map _)
/-- a sum over all worths -/
theorem sumTo_AW (g : List Int → Int) : sumTo (fun n => g (wsOf (n : Int))) 256 = (AW.map g).sum := by
  unfold sumTo AW
  rw [List.map_map]
  rfl
theorem sum_push {ns cs : List Int} (h : Nm ns) {g1 g2 : List Int → Int} (hg : ∀ ws, Ws ws → g2 ws = g1 (pull ns ws)) :
    sumTo (fun n => times (push ns cs) (wsOf (n : Int)) * g2 (wsOf (n : Int))) 256 = sumTo (fun n => times cs (wsOf (n : Int)) * g1 (wsOf (n : Int))) 256 := by
  rw [sumTo_AW (fun ws => times (push ns cs) ws * g2 ws), sumTo_AW (fun ws => times cs ws * g1 ws)]
  rw [← perm_sum ((pull_perm h).map fun ws => times cs ws * g1 ws), List.map_map]
  congr 1
  exact List.map_congr_left fun ws hw => by
    show _ = times cs (pull ns ws) * g1 (pull ns ws)
    rw [times_push h, hg ws (AW_mem.mp hw)]
/-! conditions of other things -/
def Cn.named (ns : List Int) : Cn → Cn
  | .look i => .look (thingAt ns i)
  | .nt c => .nt (c.named ns)
  | .pr b x y => .pr b (x.named ns) (y.named ns)
theorem Cn.named_all {ns : List Int} (h : Nm ns) : ∀ c : Cn, (c.named ns).looks = c.looks ∧ (c.named ns).deep = c.deep ∧ (c.ok → (c.named ns).ok)
  | .look i => ⟨rfl, rfl, fun z => by
    have z : 0 ≤ i ∧ i < 8 := z
    show 0 ≤ thingAt ns i ∧ thingAt ns i < 8
    rw [thingAt_is]
    exact h.at_ (by omega)⟩
  | .nt c => by
    obtain ⟨h1, h2, h3⟩ := c.named_all h
    exact ⟨h1, by show (c.named ns).deep + 1 = c.deep + 1; rw [h2], h3⟩
  | .pr b x y => by
    obtain ⟨h1, h2, h3⟩ := x.named_all h
    obtain ⟨g1, g2, g3⟩ := y.named_all h
    refine ⟨?_, ?_, fun z => ⟨h3 z.1, g3 z.2⟩⟩
    · show (x.named ns).looks + (y.named ns).looks = x.looks + y.looks; omega
    · show max (x.named ns).deep (y.named ns).deep + 1 = max x.deep y.deep + 1; omega
theorem thing_pull {ns ws : List Int} {i : Int} (h : 0 ≤ i ∧ i < 8) : thingAt (pull ns ws) i = thingAt ws (thingAt ns i) := by
  rw [thingAt_is, thingAt_is, thingAt_is, pull_at _ _ (by omega)]
theorem Cn.named_is (ns ws : List Int) : ∀ c : Cn, c.ok → (c.named ns).val ws = c.val (pull ns ws) ∧ (c.named ns).seen ws = (c.seen (pull ns ws)).map (thingAt ns)
  | .look i, ok => ⟨(thing_pull ok).symm, rfl⟩
  | .nt c, ok => by
    obtain ⟨h1, h2⟩ := c.named_is ns ws ok
    exact ⟨by show 1 - (c.named ns).val ws = 1 - c.val _; rw [h1], h2⟩
  | .pr b x y, ok => by
    obtain ⟨h1, h2⟩ := x.named_is ns ws ok.1
    obtain ⟨g1, g2⟩ := y.named_is ns ws ok.2
    by_cases h : x.val (pull ns ws) = stops b
    · have h' : (x.named ns).val ws = stops b := h1.trans h
      rw [(Cn.pr_stop h).1, (Cn.pr_stop h).2]
      exact ⟨(Cn.pr_stop h').1.trans h1, (Cn.pr_stop h').2.trans h2⟩
    · have h' : ¬ (x.named ns).val ws = stops b := fun z => h (h1.symm.trans z)
      rw [(Cn.pr_go h).1, (Cn.pr_go h).2, List.map_append]
      exact ⟨(Cn.pr_go h').1.trans g1, (Cn.pr_go h').2.trans (by rw [h2, g2])⟩
def Row.named (ns : List Int) (r : Row) : Row := ⟨thingAt ns r.thing, r.when_, r.to⟩
theorem rowAt_named (ns : List Int) (i b y n : Int) : (rowAt i b y n).named ns = rowAt (thingAt ns i) b y n := by
  unfold rowAt
  split <;> rfl
theorem Cn.named_rows {ns : List Int} (h : Nm ns) : ∀ (c : Cn) (b y n : Int), (c.named ns).rows b y n = (c.rows b y n).map (Row.named ns)
  | .look i, b, y, n => by show [_] = [_]; rw [rowAt_named]
  | .nt c, b, y, n => c.named_rows h b n y
  | .pr true x d, b, y, n => by
    show (x.named ns).rows b (b + (x.named ns).looks) n ++ (d.named ns).rows (b + (x.named ns).looks) y n = (x.rows b (b + x.looks) n ++ d.rows (b + x.looks) y n).map _
    rw [x.named_rows h, d.named_rows h, (x.named_all h).1, List.map_append]
  | .pr false x d, b, y, n => by
    show (x.named ns).rows b y (b + (x.named ns).looks) ++ (d.named ns).rows (b + (x.named ns).looks) y n = (x.rows b y (b + x.looks) ++ d.rows (b + x.looks) y n).map _
    rw [x.named_rows h, d.named_rows h, (x.named_all h).1, List.map_append]
theorem runF_named {ns ws : List Int} {R : List Row} (hR : ∀ r ∈ R, 0 ≤ r.thing ∧ r.thing < 8) : ∀ (n p : Nat), (runF (R.map (Row.named ns)) ws n p).2.2 = (runF R (pull ns ws) n p).2.2
  | 0, p => rfl
  | n + 1, p => by
    cases h : R[p]? with
    | none => rw [runF_out h, runF_out (by rw [List.getElem?_map, h]; rfl)]
    | some r =>
      rw [runF_in h, runF_in (r := r.named ns) (by rw [List.getElem?_map, h]; rfl)]
      have e := thing_pull (ns := ns) (ws := ws) (hR r (List.mem_of_getElem? h))
      have e1 : (r.named ns).next ws p = r.next (pull ns ws) p := by
        unfold Row.next
        rw [e]
        rfl
      have e2 : (r.named ns).leap ws = r.leap (pull ns ws) := by
        unfold Row.leap
        rw [e]
        rfl
      show (r.named ns).leap ws + _ = r.leap (pull ns ws) + _
      rw [e1, e2, runF_named hR]
theorem Cn.named_jumps {ns ws : List Int} {c : Cn} {f : Int} (h : Nm ns) (ok : c.ok) (hf : f = 0 ∨ f = 1) : jumpsF (c.named ns) f ws = jumpsF c f (pull ns ws) := by
  have e : (c.named ns).rows0 f = (c.rows0 f).map (Row.named ns) := by
    show (c.named ns).rows 0 ((c.named ns).yes f) (2 * (c.named ns).looks + 1 - (c.named ns).yes f) = (c.rows 0 (c.yes f) (2 * c.looks + 1 - c.yes f)).map _
    unfold Cn.yes
    rw [c.named_rows h, (c.named_all h).1]
  unfold jumpsF runOf
  rw [e, List.length_map]
  exact runF_named (fun r hr => by
    obtain ⟨k, hk, rfl⟩ := List.getElem_of_mem hr
    exact (Cn.row_ok ok hf (List.getElem?_eq_getElem hk)).1.thing) _ _
theorem Cn.named_looks {ns cs : List Int} {c : Cn} (h : Nm ns) (ok : c.ok) (hc : Cs cs) (hc' : Cs (push ns cs)) : looksN (c.named ns) (push ns cs) = looksN c cs := by
  unfold looksN
  rw [sum_filter hc', sum_filter hc]
  exact sum_push h fun ws hw => by
    unfold looksF
    rw [(c.named_is ns ws ok).2, List.length_map]
theorem Cn.named_leaps {ns cs : List Int} {c : Cn} {f : Int} (h : Nm ns) (ok : c.ok) (hf : f = 0 ∨ f = 1) (hc : Cs cs) (hc' : Cs (push ns cs)) : jumpsN (c.named ns) f (push ns cs) = jumpsN c f cs := by
  unfold jumpsN
  rw [sum_filter hc' (jumpsF (c.named ns) f), sum_filter hc (jumpsF c f)]
  exact sum_push h fun ws hw => Cn.named_jumps h ok hf
/-! ### a list that is popped in a comprehension: a store -/
@[reducible] def bxlS (b l p : Addr) : Sto := ⟨List Int, fun a => (a = b ∨ a = l) ∨ a = p, fun s H => BoxAt b l H ∧ H p = some (.lst (s.map V.int)) ∧ p ≠ b ∧ p ≠ l, fun s H H' e ⟨h1, h2, h3⟩ => ⟨(bxS b l).loc () H H' (fun a o f => e a o (.inl f)) h1, e p _ (.inr rfl) h2, h3⟩, fun s H a ⟨h1, h2, _⟩ f => by
  rcases f with f | f
  · exact (bxS b l).dom () H a h1 f
  · rw [f, h2]; exact (fun z => nomatch z), fun _ _ _ => False, fun _ _ _ => False⟩
section
variable {b l : Addr} {ρ : DEnv} {R : PyData → (bxS b l).S → Prop} {N : DEnv → (bxS b l).S → Prop} {t : TS} {i : Nat} {ns : List Int}
theorem ws_inList (ho : ρ[i]? = some (some (.own (ns.map .int)))) (h : ∀ p, WS (bxlS b l p) t ns (ρ.set i (some (.v (.ref p)))) (fun x _ => R x ()) (fun ρ' _ => N (ρ'.set i none) ())) : WS (bxS b l) t () ρ R N := fun A0 H0 B σ H c D r n => by
  obtain ⟨p, vs, h1, h2, h3, h5, h6, h7⟩ := c.sl i _ ho
  have hi := join_some h1
  have hil : i < ρ.length := (List.getElem?_eq_some_iff.mp ho).1
  have hvs := h7.of_ints
  subst hvs
  have np : p ≠ b ∧ p ≠ l := ⟨fun z => h3 (.inl z), fun z => h3 (.inr z)⟩
  refine h p A0 H0 B σ H ⟨fun a z => ?_, c.dm, ⟨c.at_, h6, np⟩, by rw [List.length_set]; exact c.ln, fun j w q => ?_, c.fr.mono fun a z => .inl z, c.ab, c.d0, fun a z => ?_, fun j k ys zs a q1 q2 q3 q4 => ?_, fun _ _ _ _ _ z => z.elim⟩ D (fun v H' x s' hx e a d => r v H' x () hx (fun a o q z => e a o q fun y => ?_) a.1 d) fun B' σ' H' s' ρ' hn c' => n B' σ' H' () _ hn ⟨fun a z => c'.fb a (.inl z), c'.dm, c'.at_.1, by rw [List.length_set]; exact c'.ln, fun j w q => ?_, fun a o q z => c'.fr a o q fun y => ?_, c'.ab, c'.d0, fun a z => ?_, fun j k ys zs a q1 q2 q3 q4 => ?_, fun _ _ _ _ _ z => z.elim⟩
  · rcases z with z | z
    · exact c.fb a z
    · rw [z]; exact h2
  · rw [List.getElem?_set] at q
    by_cases e : i = j
    · subst e
      rw [if_pos rfl, if_pos hil] at q
      cases q
      exact h1
    · rw [if_neg e] at q
      have z := c.sl j w q
      cases w with
      | d x => exact z
      | v x => exact z
      | own ys =>
        obtain ⟨p', vs', z1, z2, z3, z5, z6, z7⟩ := z
        refine ⟨p', vs', z1, z2, fun y => y.elim z3 fun y => ?_, z5, z6, z7⟩
        subst y
        exact c.ow i j _ ys p' ho q e hi (join_some z1)
  · rcases c.ba a z with z | z | z
    · exact .inl z
    · exact .inr (.inl (.inl z))
    · exact .inr (.inr z)
  · rw [List.getElem?_set] at q1 q2
    by_cases e : i = j
    · subst e; rw [if_pos rfl, if_pos hil] at q1; cases q1
    · rw [if_neg e] at q1
      by_cases e' : i = k
      · subst e'; rw [if_pos rfl, if_pos hil] at q2; cases q2
      · rw [if_neg e'] at q2
        exact c.ow j k ys zs a q1 q2 q3 q4
  · rcases y with y | y
    · exact z y
    · rw [y, h5] at q; cases q
  · rw [List.getElem?_set] at q
    by_cases e : i = j
    · subst e
      rw [if_pos rfl] at q
      split at q <;> cases q
    · rw [if_neg e] at q
      have z := c'.sl j w q
      cases w with
      | d x => exact z
      | v x => exact z
      | own ys =>
        obtain ⟨p', vs', z1, z2, z3, z5, z6, z7⟩ := z
        exact ⟨p', vs', z1, z2, fun y => z3 (.inl y), z5, z6, z7⟩
  · rcases y with y | y
    · exact z y
    · rw [y, h5] at q; cases q
  · rcases c'.ba a z with z | z | z
    · exact .inl z
    · rcases z with z | z
      · exact .inr (.inl z)
      · exact .inr (.inr (by rw [z]; exact h5))
    · exact .inr (.inr z)
  · rw [List.getElem?_set] at q1 q2
    by_cases e : i = j
    · subst e; rw [if_pos rfl] at q1; split at q1 <;> cases q1
    · rw [if_neg e] at q1
      by_cases e' : i = k
      · subst e'; rw [if_pos rfl] at q2; split at q2 <;> cases q2
      · rw [if_neg e'] at q2
        exact c'.ow j k ys zs a q1 q2 q3 q4
end
section
variable {b l p : Addr} {s : List Int} {ρ : DEnv} {Φ : PyData → List Int → Prop} {ta : TA} {te : TE} {K : PySem.W.Frag} {i : Nat}
theorem wp_callBL {P : Pre} {E : XK} (hi : ρ[i]? = some (some (.v (.ref b)))) (h : WA (bxlS b l p) ta s ρ fun xs s1 => P xs fun x => Φ x s1) : WE (bxlS b l p) (tCall (spB P) [] E (tCons (tVar i) ta)) s ρ Φ := fun A0 H0 B σ H c Q k =>
  ⟨.ref b, join_some (c.sl i _ hi), h A0 H0 B σ H c _ fun vs H1 xs s1 h1 e1 a1 d1 => ⟨b, l, vs, B, xs, _, by rw [List.append_nil], c.fb b (.inl (.inl rfl)), c.fb l (.inl (.inr rfl)), a1.1, (c.step e1 a1).dm, d1, h1, fun v H' x hx e a d => k v H' x s1 hx (e1.trans (e.mono fun a z => .inl z)) ⟨a, e p _ a1.2.1 fun z => z.elim a1.2.2.1 a1.2.2.2, a1.2.2⟩ d⟩⟩
theorem wp_lenS (hi : ρ[i]? = some (some (.v (.ref p)))) (q : Φ (.int s.length) s) : WE (bxlS b l p) (tCB (rLenU K) (tCons (tVar i) tNil)) s ρ Φ := fun A0 H0 B σ H c Q k =>
  ⟨_, join_some (c.sl i _ hi), .inl ⟨p, s.map V.int, rfl, .inl (SqL.of c.at_.2.1), by rw [List.length_map]; exact k _ H _ s q Fr.refl c.at_ (.int _)⟩⟩
theorem erase_map : ∀ (s : List Int) (j : Nat), (s.map V.int).eraseIdx j = (s.eraseIdx j).map V.int
  | [], _ => rfl
  | _ :: _, 0 => rfl
  | x :: r, j + 1 => by show V.int x :: (r.map V.int).eraseIdx j = V.int x :: (r.eraseIdx j).map V.int; rw [erase_map r j]
theorem seq_j {n j : Nat} (h : j < n) : seqIndex? (j : Int) n = some j := by
  unfold seqIndex?
  show (if (decide (0 ≤ (if (j : Int) < 0 then (j : Int) + n else j)) && decide ((if (j : Int) < 0 then (j : Int) + n else j) < (n : Int))) = true then some ((if (j : Int) < 0 then (j : Int) + n else j)).toNat else none) = _
  rw [if_neg (show ¬ (j : Int) < 0 from by omega)]
  show (if (decide (0 ≤ (j : Int)) && decide ((j : Int) < (n : Int))) = true then some ((j : Int)).toNat else none) = _
  rw [if_pos (by rw [decide_eq_true (by omega), decide_eq_true (by omega)]; rfl)]
  rfl
theorem wp_popS (hi : ρ[i]? = some (some (.v (.ref p)))) (h : WE (bxlS b l p) te s ρ fun y s1 => ∃ (j : Nat) (x : Int), y = .int (j : Int) ∧ s1[j]? = some x ∧ s1.length ≤ 100000 ∧ Φ (.int x) (s1.eraseIdx j)) : WE (bxlS b l p) (tBM K "list" rPopAt (tVar i) (tCons te tNil)) s ρ Φ := fun A0 H0 B σ H c Q k => by
  have hv := join_some (c.sl i _ hi)
  have hH : H p = some (.lst (s.map V.int)) := c.at_.2.1
  refine ⟨_, hv, Or.inl ⟨rfl, _, SqL.of hH⟩, h A0 H0 B σ H c _ fun v H1 y s1 ⟨j, x, ey, hx, hl, f⟩ e a d => ?_⟩
  subst ey
  cases d
  have hj := (List.getElem?_eq_some_iff.mp hx).1
  refine ⟨p, _, _, j, .int x, rfl, rfl, a.2.1, by omega, by omega, by rw [List.length_map]; exact seq_j hj, by rw [List.getElem?_map, hx]; rfl, ?_⟩
  rw [erase_map]
  have fr : Fr (bxlS b l p).F H1 (upd H1 p (.lst ((s1.eraseIdx j).map V.int))) := fun c o q z => by rw [upd_ne fun y => z (.inr y)]; exact q
  refine k _ _ _ _ f (e.trans fr) ⟨?_, upd_same, a.2.2⟩ (.int x)
  obtain ⟨ns, z, g1, g2⟩ := a.1
  exact ⟨ns, z, by rw [upd_ne (Ne.symm a.2.2.1)]; exact g1, by rw [upd_ne (Ne.symm a.2.2.2)]; exact g2⟩
end
section
variable {T : Sto} {s : T.S} {ρ : DEnv} {R : PyData → T.S → Prop} {N : DEnv → T.S → Prop} {Φ : PyData → T.S → Prop} {te to : TE} {vs : List Nat} {g : TG} {ta : TA} {K : PySem.W.Frag}
theorem ws_ownRg {i n : Nat} (hn : n ≤ 10000) (h : i < ρ.length ∧ N (ρ.set i (some (.own ((List.range n).map fun k : Nat => .int (k : Int))))) s) : WS T (tAsg (tLstRg (tRg1 (tC (.int (n : Int))))) (gName i)) s ρ R N := fun A0 H0 B σ H c D r nn => by
  have dd : ∀ (H : Hp) (l : List Nat), DDs H (l.map fun k : Nat => V.int (k : Int)) (l.map fun k : Nat => PyData.int (k : Int)) := fun H l => by
    induction l with
    | nil => exact .nil
    | cons k r ih => exact .cons (.int _) ih
  have z := ws_own (T := T) (s := s) (ρ := ρ) (R := R) (N := N) (ta := fun _ H Q => Q ((List.range n).map fun k : Nat => V.int (k : Int)) H) (i := i) (fun A0 H0 B σ H c Q k => k _ H ((List.range n).map fun k : Nat => PyData.int (k : Int)) s ⟨by rw [List.length_map, List.length_range]; omega, h.1, h.2⟩ Fr.refl c.at_ (dd _ _)) A0 H0 B σ H c D r nn
  have e : rgV 0 (n : Int) = (List.range n).map fun k : Nat => V.int (k : Int) := by
    unfold rgV
    rw [show ((n : Int) - 0).toNat = n from by omega]
    exact List.map_congr_left fun k _ => by rw [Int.zero_add]
  refine ⟨_, rfl, RgOk.of_le (by omega) (by omega) (by omega) (by omega), ?_⟩
  rw [e]
  exact z.2
theorem wp_lcI_range (I : Nat → List PyData → T.S → Prop) (gi : GIn g vs) (h : WA T ta s ρ fun xs s1 => ∃ n : Nat, xs = [.int (n : Int)] ∧ n ≤ 10000 ∧ I 0 [] s1 ∧ (∀ (i : Nat) acc s', i < n → I i acc s' → WG T g (.int (i : Int)) s' (wipeE ρ vs) fun ρ2 s2 => WE T te s2 ρ2 fun y s4 => acc.length < 100000 ∧ I (i + 1) (acc ++ [y]) s4) ∧ ∀ acc s', I n acc s' → Φ (.list acc) s') :
    WE T (tLc (iRng1 ta) g tYes te vs) s ρ Φ := wp_lc_range gi fun A0 H0 B σ H c Q k => h A0 H0 B σ H c Q fun us H' xs s1 ⟨n, e, hn, h0, hs, q⟩ => k us H' xs s1 ⟨(n : Int), e, by omega, by omega, I, h0, fun i acc s' hi hI => by
      intro A0 H0 B σ H c v hv Q k
      refine hs i acc s' (by omega) hI A0 H0 B σ H c v hv Q fun σ' ρ' hw c' => k σ' ρ' ?_ c'
      exact wt_yes hw, fun acc s' hI => q acc s' hI⟩
theorem wp_indexI (h : WE T to s ρ fun x s1 => ∃ ns : List Int, x = .list (ns.map .int) ∧ WE T te s1 ρ fun y s2 => ∃ t, y = .int t ∧ t ∈ ns ∧ Φ (.int (firstAt t ns)) s2) : WE T (tBM K "list" (rIndex K) to (tCons te tNil)) s ρ Φ := fun A0 H0 B σ H c Q k =>
  h A0 H0 B σ H c _ fun v H1 x s1 ⟨ns, ex, h1⟩ e1 a1 d1 => by
    subst ex
    cases d1 with
    | @lst p us _ hp hu =>
      have hus := hu.of_ints
      subst hus
      have hb := cut_get hp
      refine ⟨Or.inl ⟨rfl, _, SqL.of hb.1⟩, h1 A0 H0 B σ H1 (c.step e1 a1) _ fun u H2 y s2 ⟨t, ey, ht, f⟩ e2 a2 d2 => ?_⟩
      subst ey
      cases d2
      obtain ⟨g1, g2, g3⟩ := firstAt_mem ht
      refine ⟨p, _, .int t, firstAt t ns, .int t, rfl, rfl, SqL.of (e2 p _ hb.1 fun z => hb.2 (c.fb p z)), rfl, ?_, by rw [List.getElem?_map, g2]; rfl, ?_, fun m z' hm hz => ?_, k _ H2 _ s2 f (e1.trans e2) a2 (.int _)⟩
      · rw [List.all_eq_true]
        intro x hx
        obtain ⟨i, _, rfl⟩ := List.mem_map.mp hx
        rfl
      · show (t == t) = true
        exact beq_self_eq_true t
      · rw [List.getElem?_map] at hz
        cases q : ns[m]? with
        | none => rw [q] at hz; cases hz
        | some i =>
          rw [q] at hz
          cases hz
          have := g3 m i hm q
          show (i == t) = false
          exact beq_eq_false_iff_ne.mpr this
end
end J

namespace J
open PySem L2 PySem.SeqAt PySem.W
/-! ### min of a list of data -/
def rMinD (K : PySem.W.Frag) : List V → Hp → VK → Prop := fun vs H Q => ∃ (p : Addr) (us : List V) (d : PyData) (ds : List PyData), vs = [V.ref p] ∧ SqL K H p us ∧ DpAll K H us (d :: ds) ∧ AlikeAll (d :: ds) ∧ PyData.depthAll (d :: ds) ≤ 60 ∧
  ∀ (i : Nat) u, us[i]? = some u → (d :: ds)[i]? = some (minD d ds) → Q u H
theorem vals_at : ∀ {us : List V} {its : List Value} {i : Nat} {v : Value}, Vals us its → its[i]? = some v → ∃ u, us[i]? = some u ∧ RelV u v
  | _, _, _, _, .nil, e => by simp at e
  | _, _, 0, _, .cons r _, e => by cases e; exact ⟨_, rfl, r⟩
  | _, _, i + 1, v, .cons _ t, e => vals_at (i := i) t (by simpa using e)
theorem cr_minD {X : Cx} (hc : X.calm = true) (hu : X.A.units + 65 < cLine) : CallR X (.builtin "min") (rMinD X.K) := by
  intro pins s σ H vs us Q I r h
  obtain ⟨p, ws, d, ds, rfl, hs, hd, ha, hdep, q⟩ := h
  obtain ⟨its, rv, hl, _⟩ := I.list hs
  rw [Vals.ref1 r]
  obtain ⟨as, hr⟩ := Dp.readsAll I (d :: ds) _ its hd rv
  have hr' : ReadsAll s.heap its.toArray.toList (d :: ds) as := by simpa using hr
  have hn : its.toArray.size = ds.length + 1 := readsAll_len hr'
  refine call_min_walkH (iter_listW (A := X.A.in1) (I.ok.hd hc) hl.isList fun s2 e W st hfp hw hk => ?_)
  refine ⟨_, _, _, _, _, _, _, s.heap, _, rfl, W, st, hfp, by omega, hw, hk, cmpIn_lt (A := X.A.in1) hr' ha (by show X.A.units + 1 + _ < _; omega), fun v s' hP m => ?_⟩
  obtain ⟨h', tk, rfl, hk'⟩ := moved_old e rfl m
  obtain ⟨bs, _, hi, _, _⟩ := readsAll_atA hr' _ v hP
  have e1 : its.toArray.size - 1 = ds.length := by omega
  have e2 := (argBest_fold dataLt PyData.none d ds ds.length (Nat.le_refl _)).2
  rw [List.take_length] at e2
  rw [e1] at hP hi
  have key : ∀ g : Nat, its.toArray[g]? = some v → g < (d :: ds).length → (d :: ds).getD g PyData.none = minD d ds → ∃ u, RelV u v ∧ Q u H := fun g g1 g2 g3 => by
    obtain ⟨u, hu1, hu2⟩ := vals_at (v := v) (i := g) rv (by simpa using g1)
    refine ⟨u, hu2, q g u hu1 ?_⟩
    rw [List.getD_eq_getElem?_getD, List.getElem?_eq_getElem g2] at g3
    rw [List.getElem?_eq_getElem g2]
    exact congrArg some g3
  obtain ⟨u, k1, k2⟩ := key _ hP hi e2
  exact ⟨u, H, I.kept hk', k1, k2⟩
section
variable {K : PySem.W.Frag} {Φ : PyData → Prop}
theorem rc_minD {d : PyData} {ds : List PyData} (ha : AlikeAll (d :: ds)) (hd : PyData.depthAll (d :: ds) ≤ 60) (q : Φ (minD d ds)) : RC (rMinD K) [.list (d :: ds)] Φ := fun B H vs Q dm dd k => by
  cases dd with
  | cons d1 d2 =>
    cases d2
    cases d1 with
    | lst ha' hs =>
      refine ⟨_, _, d, ds, rfl, SqL.of (cut_get ha').1, DDs.dp _ _ (DDs.mono cut_same _ _ hs), ha, hd, fun i u hu hm => ?_⟩
      obtain ⟨v, hv, hdv⟩ := DDs.get hs hm
      rw [hu] at hv
      cases hv
      exact k _ H _ q (Same.refl H) hdv
end
theorem hu65_of {A : Around} {k : Nat} (hr : Room k A) : A.units + 65 < cLine := by have := hr.un; omega
end J

namespace J
open PySem L2 PySem.SeqAt PySem.W PyProof.Rows
/-! ### sorted of a list of lists of ints -/
def lD (ns : List Int) : PyData := .list (ns.map .int)
def leL (p q : List Int) : Bool := decide (p ≤ q)
def rSortLL (K : PySem.W.Frag) : List V → Hp → VK → Prop := fun vs H Q => ∃ (p : Addr) (us : List V) (nss : List (List Int)), vs = [V.ref p] ∧ SqL K H p us ∧ DpAll K H us (nss.map lD) ∧
  ∀ q, H q = none → Q (.ref q) (upd H q (.lst (((us.zip nss).mergeSort fun a b => leL a.2 b.2).map (·.1))))
theorem each_zip {h : Heap} : ∀ {us : List V} {its : List Value} {nss : List (List Int)} {as : List Addr}, Vals us its → ReadsAll h its (nss.map lD) as → EachIs (fun v (b : V × List Int) => RelV b.1 v ∧ ∃ as, Reads h v (lD b.2) as) its (us.zip nss)
  | _, _, [], _, r, h => by
    have h' : ReadsAll _ _ [] _ := h
    cases h'
    cases r
    exact .nil
  | _, _, n :: nss, _, r, h => by
    have h' : ReadsAll _ _ (lD n :: nss.map lD) _ := h
    cases h' with
    | cons h1 h2 =>
      cases r with
      | cons r1 r2 => exact .cons ⟨r1, _, h1⟩ (each_zip r2 h2)
theorem vals_each : ∀ {out : List Value} {bs : List (V × List Int)}, EachIs (fun v (b : V × List Int) => RelV b.1 v) out bs → Vals (bs.map (·.1)) out
  | _, _, .nil => .nil
  | _, _, .cons h t => .cons h (vals_each t)
theorem dpAll_len {K : PySem.W.Frag} {H : Hp} : ∀ {us : List V} {ds : List PyData}, DpAll K H us ds → us.length = ds.length
  | _, _, .nil => rfl
  | _, _, .cons _ t => congrArg (· + 1) (dpAll_len t)
theorem zip_snd : ∀ {us : List V} {nss : List (List Int)}, us.length = nss.length → (us.zip nss).map (·.2) = nss
  | [], [], _ => rfl
  | u :: us, n :: nss, h => by
    show n :: (us.zip nss).map (·.2) = _
    rw [zip_snd (by simpa using h)]
theorem cr_sortLL {X : Cx} (hu : X.A.units + 64 < cLine) : CallR X (.builtin "sorted") (rSortLL X.K) := by
  intro pins s σ H vs us Q I r h
  obtain ⟨p, ws, nss, rfl, hs, hd, q⟩ := h
  obtain ⟨its, rv, hl, hz⟩ := I.list hs
  rw [Vals.ref1 r]
  obtain ⟨as, hr⟩ := Dp.readsAll I _ _ its hd rv
  have hn : ws.length = nss.length := by rw [dpAll_len hd, List.length_map]
  have ez := each_zip rv hr
  have hlen : (ws.zip nss).length ≤ sizeLine := by rw [List.length_zip, hn, Nat.min_self, ← hn]; exact hz
  refine sorted_data (enc := fun b : V × List Int => lD b.2) (R := fun v (b : V × List Int) => RelV b.1 v) hl.isList (ez.mono fun _ _ h => h.1) (ez.mono fun _ _ h => h.2) (AllAlike.of fun b b' => by simpa [lD, alike] using alike_ints b.2 b'.2) (Sortable.others fun b => ⟨(fun z => nomatch z), (fun xs z => nomatch z)⟩) hlen (fun b _ => ?_) fun out ho eo => ?_
  · have h1 : (lD b.2).depth ≤ 1 := by unfold lD; rw [J.depth_list, PySem.W.depth_ints]; exact Nat.le_refl _
    show X.A.units + 2 + (lD b.2).depth < cLine
    omega
  · obtain ⟨ep, he'⟩ := PyProof.Rows.sortedAll_at s.heap its out.toArray
    have e1 : dataLe false (fun b : V × List Int => lD b.2) = fun a b => leL a.2 b.2 := dataLe_rows _
    rw [e1] at eo
    have hv := vals_each eo
    refine ⟨.ref _, upd H (s.heap.objs.size + 1) (.lst (((ws.zip nss).mergeSort fun a b => leL a.2 b.2).map (·.1))), I.laid (t' := s.toks) (fun _ _ => PyProof.Rows.sortedAll_old) (Nat.le_succ _) ⟨?_, out, ep, hv, he'⟩, rfl, q _ (I.hok.fresh (Nat.le_succ _))⟩
    rw [List.length_map, List.length_mergeSort]
    exact hlen
section
variable {K : PySem.W.Frag} {Φ : PyData → Prop}
theorem dds_zip {H : Hp} : ∀ {us : List V} {nss : List (List Int)}, DDs H us (nss.map lD) → ∀ b ∈ us.zip nss, DD H b.1 (lD b.2)
  | [], _, h => by intro b hb; cases hb
  | u :: us, [], h => by intro b hb; cases hb
  | u :: us, n :: nss, h => by
    have h' : DDs H (u :: us) (lD n :: nss.map lD) := h
    cases h' with
    | cons h1 h2 =>
      intro b hb
      have hb : b ∈ (u, n) :: us.zip nss := hb
      rcases List.mem_cons.mp hb with rfl | hb
      · exact h1
      · exact dds_zip h2 b hb
theorem dds_pairs {H : Hp} : ∀ {bs : List (V × List Int)}, (∀ b ∈ bs, DD H b.1 (lD b.2)) → DDs H (bs.map (·.1)) ((bs.map (·.2)).map lD)
  | [], _ => .nil
  | b :: bs, h => .cons (h b (List.mem_cons_self ..)) (dds_pairs fun c hc => h c (List.mem_cons_of_mem _ hc))
theorem rc_sortLL {nss : List (List Int)} (q : Φ (.list ((nss.mergeSort leL).map lD))) : RC (rSortLL K) [.list (nss.map lD)] Φ := fun B H vs Q dm dd k => by
  cases dd with
  | cons d1 d2 =>
    cases d2
    cases d1 with
    | @lst a us _ ha hs =>
      refine ⟨_, _, nss, rfl, SqL.of (cut_get ha).1, DDs.dp _ _ (DDs.mono cut_same _ _ hs), fun p hp => ?_⟩
      have hl : us.length = nss.length := by rw [hs.len, List.length_map]
      have sm := (Fr.of (F := B) (same_new (o := .lst (((us.zip nss).mergeSort fun a b => leL a.2 b.2).map (·.1))) hp)).cut (B := B) fun _ z => z
      have e : ((us.zip nss).mergeSort fun a b => leL a.2 b.2).map (·.2) = nss.mergeSort leL := by
        rw [List.map_mergeSort (s := leL) (fun a _ b _ => rfl), zip_snd hl]
      have hd := dds_pairs (H := cut B H) (bs := (us.zip nss).mergeSort fun a b => leL a.2 b.2) fun b hb => dds_zip hs b ((List.mergeSort_perm _ _).mem_iff.mp hb)
      rw [e] at hd
      exact k _ _ _ q (same_new hp) (.lst (new_cut dm hp) (DDs.mono sm _ _ hd))
end
/-! ### all turns -/
/-- as the law lays them -/
def lawT : Nat → List (List Int)
  | 0 => [[]]
  | n + 1 => (lawT n).map (· ++ [0]) ++ (lawT n).map (· ++ [1])
theorem lawT_len : ∀ n, (lawT n).length = 2 ^ n
  | 0 => rfl
  | n + 1 => by show ((lawT n).map _ ++ (lawT n).map _).length = _; rw [List.length_append, List.length_map, List.length_map, lawT_len n, Nat.pow_succ]; omega
theorem lawT_item : ∀ n, ∀ w ∈ lawT n, w.length = n
  | 0, w, h => by
    have h : w ∈ [[]] := h
    rw [List.mem_singleton.mp h]; rfl
  | n + 1, w, h => by
    have h : w ∈ (lawT n).map (· ++ [0]) ++ (lawT n).map (· ++ [1]) := h
    rcases List.mem_append.mp h with h | h <;> obtain ⟨v, hv, rfl⟩ := List.mem_map.mp h <;> simp [lawT_item n v hv]
theorem leL_total : ∀ a b : List Int, (leL a b || leL b a) = true := fun a b => by
  unfold leL
  rw [Bool.or_eq_true, decide_eq_true_eq, decide_eq_true_eq]
  exact List.le_total a b
theorem leL_trans : ∀ a b c : List Int, leL a b = true → leL b c = true → leL a c = true := fun a b c h1 h2 => by
  unfold leL at *
  rw [decide_eq_true_eq] at *
  exact List.le_trans h1 h2
theorem sortT {n : Nat} (h : n ≤ 6) : (lawT n).mergeSort leL = allB n := by
  have hs := List.pairwise_mergeSort leL_trans leL_total (lawT n)
  have hp : ((lawT n).mergeSort leL).Perm (allB n) := (List.mergeSort_perm _ _).trans (by
    have : n = 0 ∨ n = 1 ∨ n = 2 ∨ n = 3 ∨ n = 4 ∨ n = 5 ∨ n = 6 := by omega
    rcases this with rfl | rfl | rfl | rfl | rfl | rfl | rfl <;> exact List.isPerm_iff.mp (by decide +kernel))
  have hb : (allB n).Pairwise fun a b => leL a b = true := by
    have : n = 0 ∨ n = 1 ∨ n = 2 ∨ n = 3 ∨ n = 4 ∨ n = 5 ∨ n = 6 := by omega
    rcases this with rfl | rfl | rfl | rfl | rfl | rfl | rfl <;> decide +kernel
  exact hp.eq_of_pairwise (le := fun a b => leL a b = true) (fun a b _ _ h1 h2 => List.le_antisymm (of_decide_eq_true h1) (of_decide_eq_true h2)) hs hb
/-! ### the least -/
/-- a told row: how many, by which turns, what else -/
def rowF (k : Int) (ts : List Int) (r : List PyData) : PyData := .tuple (.int k :: lD ts :: r)
def fstD : PyData → Int
  | .tuple (.int k :: _) => k
  | _ => 0
theorem lt_fst {a b : Int} {xs ys : List PyData} : (dataLt (.tuple (.int a :: xs)) (.tuple (.int b :: ys)) = true → a ≤ b) ∧ (dataLt (.tuple (.int a :: xs)) (.tuple (.int b :: ys)) = false → b ≤ a) := by
  rw [dataLt_tuple, dataLt_cons (by simp [alike]), dataLt_int]
  by_cases h : a = b
  · subst h
    exact ⟨fun _ => Int.le_refl _, fun _ => Int.le_refl _⟩
  · have e : ¬ PyData.eqv (.int a) (.int b) = true := by simp [PyData.eqv, h]
    rw [if_neg e]
    simp only [decide_eq_true_eq, decide_eq_false_iff_not]
    omega
theorem minD_all {ks : PyData → Prop} (hk : ∀ x, ks x → ∃ a xs, x = .tuple (.int a :: xs)) : ∀ (ds : List PyData) (d : PyData), ks d → (∀ x ∈ ds, ks x) → minD d ds ∈ d :: ds ∧ ∀ x ∈ d :: ds, fstD (minD d ds) ≤ fstD x
  | [], d, h, _ => ⟨List.mem_cons_self .., fun x hx => by rw [List.mem_singleton.mp hx]; exact Int.le_refl _⟩
  | e :: ds, d, h, hs => by
    have he := hs e (List.mem_cons_self ..)
    have step : minD d (e :: ds) = minD (if dataLt e d then e else d) ds := rfl
    rw [step]
    have hb : ks (if dataLt e d then e else d) := by split <;> assumption
    obtain ⟨m1, m2⟩ := minD_all hk ds _ hb fun x hx => hs x (List.mem_cons_of_mem _ hx)
    have h3 := m2 _ (List.mem_cons_self ..)
    obtain ⟨a, xs, rfl⟩ := hk d h
    obtain ⟨b, ys, rfl⟩ := hk e he
    have lf := lt_fst (a := b) (b := a) (xs := ys) (ys := xs)
    refine ⟨?_, fun x hx => ?_⟩
    · rcases List.mem_cons.mp m1 with m1 | m1
      · rw [m1]
        split
        · exact List.mem_cons_of_mem _ (List.mem_cons_self ..)
        · exact List.mem_cons_self ..
      · exact List.mem_cons_of_mem _ (List.mem_cons_of_mem _ m1)
    · rcases List.mem_cons.mp hx with rfl | hx
      · refine Int.le_trans h3 ?_
        split
        · exact lf.1 (by assumption)
        · exact Int.le_refl _
      · rcases List.mem_cons.mp hx with rfl | hx
        · refine Int.le_trans h3 ?_
          split
          · exact Int.le_refl _
          · exact lf.2 (Bool.eq_false_iff.mpr (by assumption))
        · exact m2 x (List.mem_cons_of_mem _ hx)

/-! rows that are compared -/
def IsRow (x : PyData) : Prop := ∃ (k : Int) (ts r : List Int), x = rowF k ts (r.map .int)
theorem alike_rows {x y : PyData} (hx : IsRow x) (hy : IsRow y) : alike x y = true := by
  obtain ⟨k, ts, r, rfl⟩ := hx
  obtain ⟨k', ts', r', rfl⟩ := hy
  unfold rowF lD
  simp [alike, alikeAll, alike_ints]
theorem depth_row {x : PyData} (h : IsRow x) : x.depth ≤ 3 := by
  obtain ⟨k, ts, r, rfl⟩ := h
  unfold rowF
  rw [J.depth_tuple]
  have : PyData.depthAll (.int k :: lD ts :: r.map .int) ≤ 2 := J.depthAll_le fun d hd => by
    rcases List.mem_cons.mp hd with rfl | hd
    · have := J.depth_int k; omega
    · rcases List.mem_cons.mp hd with rfl | hd
      · unfold lD; rw [J.depth_list, PySem.W.depth_ints]; omega
      · obtain ⟨i, _, rfl⟩ := List.mem_map.mp hd
        have := J.depth_int i; omega
  omega
def leastD : List PyData → PyData
  | [] => .none
  | d :: ds => minD d ds
structure Rows (l : List PyData) : Prop where
  some_ : l ≠ []
  row : ∀ x ∈ l, IsRow x
theorem rc_leastD {K : PySem.W.Frag} {Φ : PyData → Prop} {l : List PyData} (h : Rows l) (q : Φ (leastD l)) : RC (rMinD K) [.list l] Φ := by
  cases l with
  | nil => exact absurd rfl h.some_
  | cons d ds =>
    refine rc_minD ⟨fun x hx y hy => alike_rows (h.row x hx) (h.row y hy), fun x hx => ?_⟩ ?_ q
    · obtain ⟨_, _, _, rfl⟩ := h.row x hx
      exact fun z => nomatch z
    · have := J.depthAll_le (ds := d :: ds) (n := 3) fun x hx => depth_row (h.row x hx)
      omega
theorem Rows.least {l : List PyData} (h : Rows l) : leastD l ∈ l ∧ ∀ x ∈ l, fstD (leastD l) ≤ fstD x := by
  cases l with
  | nil => exact absurd rfl h.some_
  | cons d ds =>
    exact minD_all (ks := IsRow) (fun x ⟨k, ts, r, e⟩ => ⟨k, _, e⟩) ds d (h.row d (List.mem_cons_self ..)) fun x hx => h.row x (List.mem_cons_of_mem _ hx)
def unL : PyData → List Int
  | .list xs => xs.map fun d => match d with | .int i => i | _ => 0
  | _ => []
theorem unL_D (ts : List Int) : unL (lD ts) = ts := unI_D ts
/-! what is told of all turns -/
def rowL (c : Cn) (cs ts : List Int) : PyData := rowF (looksN (c.turn ts) cs) ts []
def rowJ1 (c : Cn) (cs ts : List Int) (f : Int) : PyData := rowF (jumpsN (c.turn ts) f cs) ts [.int f]
def rowJ (c : Cn) (cs ts : List Int) : List PyData := [rowJ1 c cs ts 0, rowJ1 c cs ts 1]
def fewL (c : Cn) (cs : List Int) : List PyData := (allB c.pairs).map (rowL c cs)
def fewJ (c : Cn) (cs : List Int) : List PyData := (allB c.pairs).flatMap (rowJ c cs)
theorem rowJ_len (c : Cn) (cs : List Int) : ∀ l : List (List Int), (l.flatMap (rowJ c cs)).length = 2 * l.length
  | [] => rfl
  | t :: l => by rw [List.flatMap_cons, List.length_append, rowJ_len c cs l]; show 2 + _ = 2 * (l.length + 1); omega
theorem fewL_map (c : Cn) (cs : List Int) : ((allB c.pairs).map lD).map (fun d => rowF (looksN (c.turn (unL d)) cs) (unL d) []) = fewL c cs := by
  unfold fewL
  rw [List.map_map]
  exact List.map_congr_left fun ts _ => by show rowF (looksN (c.turn (unL (lD ts))) cs) (unL (lD ts)) [] = _; rw [unL_D]; rfl
theorem allB_ne (n : Nat) : allB n ≠ [] := fun z => by
  have h := allB_len n
  rw [z] at h
  have := Nat.two_pow_pos n
  exact absurd h (by show (0 : Nat) ≠ _; omega)
theorem fewL_rows (c : Cn) (cs : List Int) : Rows (fewL c cs) := by
  refine ⟨fun z => allB_ne c.pairs (List.map_eq_nil_iff.mp z), fun x hx => ?_⟩
  obtain ⟨ts, _, rfl⟩ := List.mem_map.mp hx
  exact ⟨_, ts, [], rfl⟩
theorem fewJ_rows (c : Cn) (cs : List Int) : Rows (fewJ c cs) := by
  refine ⟨fun z => ?_, fun x hx => ?_⟩
  · have h := rowJ_len c cs (allB c.pairs)
    have h2 : (fewJ c cs).length = 2 * (allB c.pairs).length := h
    rw [z, allB_len] at h2
    have := Nat.two_pow_pos c.pairs
    exact absurd h2 (by show (0 : Nat) ≠ _; omega)
  · obtain ⟨ts, _, hx⟩ := List.mem_flatMap.mp hx
    simp only [rowJ, List.mem_cons, List.not_mem_nil, or_false] at hx
    rcases hx with rfl | rfl
    · exact ⟨_, ts, [0], rfl⟩
    · exact ⟨_, ts, [1], rfl⟩
/-- turns of a condition -/
def Ts (c : Cn) (ts : List Int) : Prop := ts.length = c.pairs ∧ ∀ t ∈ ts, t = 0 ∨ t = 1
theorem fewL_is (c : Cn) (cs : List Int) : ∃ ts, Ts c ts ∧ leastD (fewL c cs) = rowL c cs ts ∧ ∀ ts', Ts c ts' → looksN (c.turn ts) cs ≤ looksN (c.turn ts') cs := by
  obtain ⟨h1, h2⟩ := (fewL_rows c cs).least
  obtain ⟨ts, ht, e⟩ := List.mem_map.mp h1
  refine ⟨ts, (allB_mem _ _).mp ht, e.symm, fun ts' h' => ?_⟩
  have h3 := h2 _ (List.mem_map.mpr ⟨ts', (allB_mem _ _).mpr h', rfl⟩)
  rw [← e] at h3
  exact h3
theorem fewJ_is (c : Cn) (cs : List Int) : ∃ ts f, Ts c ts ∧ (f = 0 ∨ f = 1) ∧ leastD (fewJ c cs) = rowJ1 c cs ts f ∧ ∀ ts' f', Ts c ts' → (f' = 0 ∨ f' = 1) → jumpsN (c.turn ts) f cs ≤ jumpsN (c.turn ts') f' cs := by
  obtain ⟨h1, h2⟩ := (fewJ_rows c cs).least
  obtain ⟨ts, ht, hx⟩ := List.mem_flatMap.mp h1
  have key : ∃ f, (f = 0 ∨ f = 1) ∧ leastD (fewJ c cs) = rowJ1 c cs ts f := by
    simp only [rowJ, List.mem_cons, List.not_mem_nil, or_false] at hx
    rcases hx with hx | hx
    · exact ⟨0, .inl rfl, hx⟩
    · exact ⟨1, .inr rfl, hx⟩
  obtain ⟨f, hf, e⟩ := key
  refine ⟨ts, f, (allB_mem _ _).mp ht, hf, e, fun ts' f' h' hf' => ?_⟩
  have h3 := h2 (rowJ1 c cs ts' f') (List.mem_flatMap.mpr ⟨ts', (allB_mem _ _).mpr h', by rcases hf' with rfl | rfl <;> simp [rowJ]⟩)
  rw [e] at h3
  exact h3
end J

namespace J
open PySem L2
/-! ### two things told anew, both changed -/
section
variable {T : Sto} {A0 : Addr → Prop} {H0 : Hp} {B : Addr → Prop} {σ : L2.St} {H H1 H2 : Hp} {s : T.S} {ρ : DEnv}
theorem Cxt.newL (c : Cxt T A0 H0 B σ H1 s ρ) (e2 : Same H1 H2) {p : Addr} {ys : List V} (h : cut (NewA B H1) H2 p = some (.lst ys)) : H1 p = none ∧ H2 p = some (.lst ys) ∧ ¬ B p ∧ ¬ T.F p ∧ H0 p = none ∧
    ∀ (j : Nat) xs, ρ[j]? = some (some (.own xs)) → σ[j]? ≠ some (some (.ref p)) := by
  obtain ⟨q1, q2⟩ := cut_get h
  have g2 : ¬ B p := fun z => q2 (.inl z)
  have g4 : H1 p = none := by
    cases q3 : H1 p with
    | none => rfl
    | some o' =>
      have q4 := e2 p o' q3
      rw [q1] at q4
      cases q4
      exact absurd (.inr ⟨ys, q3⟩) q2
  have nf : ¬ T.F p := fun z => g2 (c.fb p z)
  refine ⟨g4, q1, g2, nf, ?_, fun j xs k1 k2 => ?_⟩
  · cases q : H0 p with
    | none => rfl
    | some o => rw [c.fr p o q nf] at g4; cases g4
  · obtain ⟨p', us, z1, _, _, _, z6, _⟩ := c.sl j _ k1
    have z := join_some z1
    rw [k2] at z
    cases z
    rw [g4] at z6
    cases z6
theorem own_set {i : Nat} {v : V} {p : Addr} {w : V} (hi : i < ρ.length) (no : ∀ (j : Nat) xs, ρ[j]? = some (some (.own xs)) → σ[j]? ≠ some (some (.ref p))) : ∀ (j : Nat) xs, (ρ.set i (some (.v w)))[j]? = some (some (.own xs)) → (σ.set i (some v))[j]? ≠ some (some (.ref p)) := fun j xs q1 q2 => by
  rw [List.getElem?_set] at q1 q2
  by_cases e : i = j
  · rw [if_pos e, if_pos hi] at q1; cases q1
  · rw [if_neg e] at q1 q2
    exact no j xs q1 q2
end
section
variable {T : Sto} {s : T.S} {ρ : DEnv} {R : PyData → T.S → Prop} {N : DEnv → T.S → Prop} {ta ta' : TA} {te : TE} {tt : TT} {tm tm' u : TS} {P P' : Pre} {E E' : XK} {i j : Nat}
/-- x = f(..); y = g(..); if test: return e; x, y are changed; the rest -/
theorem ws_mut2G (M : DEnv → T.S → Prop) (hu : ∀ ρ s, M ρ s → WS T u s ρ R N) (hi : i < ρ.length) (hj : j < ρ.length)
    (h : WA T ta s ρ fun xs s1 => noLs xs = true ∧ P xs fun x => ∀ w, WA T ta' s1 (ρ.set i (some (.v w))) fun ys s2 => noLs ys = true ∧ P' ys fun y => MutOk tm i x ∧ MutOk tm' j y ∧
      WT T tt s2 ((ρ.set i (some (.d x))).set j (some (.d y))) fun b s3 => if b = true then WE T te s3 (frz ((ρ.set i (some (.d x))).set j (some (.d y)))) R else ∀ w w', M ((ρ.set i (some (.v w))).set j (some (.v w'))) s3) (ij : i ≠ j) :
    WS T (tSeq (tAsg (tCall (spD P) [] E ta) (gName i)) (tSeq (tAsg (tCall (spD P') [] E' ta') (gName j)) (tSeq (tIfS tt (tRet te) tNext) (tSeq tm (tSeq tm' u))))) s ρ R N := fun A0 H0 B σ H c D r n =>
  h A0 H0 B σ H c _ fun vs H1 xs s1 ⟨nl, h1⟩ e1 a1 d1 => by
    have c1 := c.step e1 a1
    have dmN : ∀ {B : Addr → Prop} {H : Hp}, (∀ a, B a → H a ≠ none) → ∀ a, NewA B H a → H a ≠ none := fun dm a z => by
      rcases z with z | ⟨_, z⟩
      · exact dm a z
      · rw [z]; exact fun z => nomatch z
    refine ⟨NewA B H1, xs, _, dmN c1.dm, by rw [List.append_nil]; exact DDs.noL _ _ nl d1, h1, fun v H2 x hx e2 d2 => ?_⟩
    have cN1 := (c1.fresh e2).set (i := i) (w := .v v) rfl fun _ z => nomatch z
    have cD1 := (c1.grow e2).setD (i := i) (DD.mono (cut_mono fun a z => .inl z) _ _ d2)
    refine hx v A0 H0 _ _ H2 cN1 _ fun us H3 ys s2 ⟨nl2, h2⟩ e3 a3 d3 => ?_
    have cN2 := cN1.step e3 a3
    have cD2 := cD1.step e3 a3
    refine ⟨NewA (NewB B H1 H2) H3, ys, _, dmN cN2.dm, by rw [List.append_nil]; exact DDs.noL _ _ nl2 d3, h2, fun w H4 y ⟨hm, hm', ht⟩ e4 d4 => ?_⟩
    have cN3 := (cN2.fresh e4).set (i := j) (w := .v w) rfl fun _ z => nomatch z
    have cD3 := (cD2.grow e4).setD (i := j) (DD.mono (cut_mono fun a z => .inl (.inl z)) _ _ d4)
    have hv : ((σ.set i (some v)).set j (some w))[i]? = some (some v) := by rw [List.getElem?_set, if_neg fun z => ij z.symm, List.getElem?_set, if_pos rfl, if_pos (by rw [c.ln]; exact hi)]
    have hw : ((σ.set i (some v)).set j (some w))[j]? = some (some w) := by rw [List.getElem?_set, if_pos rfl, if_pos (by rw [List.length_set, c.ln]; exact hj)]
    refine ht A0 H0 B _ H4 cD3 _ fun b H5 s3 hb e5 a5 => ?_
    cases b with
    | true =>
      have hb : WE T te s3 (frz ((ρ.set i (some (.d x))).set j (some (.d y)))) R := hb
      exact hb A0 H0 _ _ H5 (cD3.step e5 a5).frz _ fun v H' x s' f e a d => r v H' x s' f ((cD3.step e5 a5).fr.trans e) a (DD.mono (cut_mono fun _ z => .inl z) _ _ d)
    | false =>
      have hb : WS T u s3 ((ρ.set i (some (.v v))).set j (some (.v w))) R N := hu _ _ ((show ∀ w w', M ((ρ.set i (some (.v w))).set j (some (.v w'))) s3 from hb) v w)
      have c5 := cN3.step e5 a5
      have G1 : ∀ a o, cut (NewA B H1) H2 a = some o → H5 a = some o := fun a o q => by
        obtain ⟨q1, q2⟩ := cut_get q
        have nf : ¬ T.F a := fun z => q2 (.inl (c.fb a z))
        exact e5 a o (e4 a o (e3 a o q1 nf)) nf
      have G2 : ∀ a o, cut (NewA (NewB B H1 H2) H3) H4 a = some o → H5 a = some o := fun a o q => by
        obtain ⟨q1, q2⟩ := cut_get q
        exact e5 a o q1 fun z => q2 (.inl (.inl (c.fb a z)))
      have hi' : i < (ρ.set i (some (.v v))).length := by rw [List.length_set]; exact hi
      have hj' : j < (ρ.set i (some (.v v))).length := by rw [List.length_set]; exact hj
      -- the second change, from any context
      have second : ∀ (Hx : Hp), Cxt T A0 H0 (NewB (NewB B H1 H2) H3 H4) ((σ.set i (some v)).set j (some w)) Hx s3 ((ρ.set i (some (.v v))).set j (some (.v w))) → (∀ a o, cut (NewA (NewB B H1 H2) H3) H4 a = some o → Hx a = some o) → tm' { D with nx := u D } ((σ.set i (some v)).set j (some w)) Hx := fun Hx cx gx => by
        refine hm' _ w _ Hx _ hw d4 gx (hb A0 H0 _ _ _ cx D r n) fun p ys zs hp => ?_
        obtain ⟨g1, g2, g3, g4, g5, g6⟩ := cN2.newL e4 hp
        exact hb A0 H0 _ _ _ (cx.mut (.inr ⟨g1, ys, g2⟩) g4 g5 (own_set hj' g6) (gx p _ hp)) D r n
      refine hm _ v _ H5 _ hv d2 G1 (second H5 c5 G2) fun p ys zs hp => ?_
      obtain ⟨g1, g2, g3, g4, g5, g6⟩ := c1.newL e2 hp
      refine second _ (c5.mut (.inl (.inr ⟨g1, ys, g2⟩)) g4 g5 (own_set hj' (own_set hi g6)) (G1 p _ hp)) fun a o q => ?_
      obtain ⟨q1, q2⟩ := cut_get q
      have ne : a ≠ p := fun z => q2 (.inr ⟨ys, by rw [z]; exact e3 p _ g2 g4⟩)
      rw [upd_ne ne]
      exact G2 a o q
theorem ws_mut2E (hi : i < ρ.length) (hj : j < ρ.length)
    (h : WA T ta s ρ fun xs s1 => noLs xs = true ∧ P xs fun x => ∀ w, WA T ta' s1 (ρ.set i (some (.v w))) fun ys s2 => noLs ys = true ∧ P' ys fun y => MutOk tm i x ∧ MutOk tm' j y ∧
      WT T tt s2 ((ρ.set i (some (.d x))).set j (some (.d y))) fun b s3 => if b = true then WE T te s3 (frz ((ρ.set i (some (.d x))).set j (some (.d y)))) R else ∀ w w', N ((ρ.set i (some (.v w))).set j (some (.v w'))) s3) (ij : i ≠ j) :
    WS T (tSeq (tAsg (tCall (spD P) [] E ta) (gName i)) (tSeq (tAsg (tCall (spD P') [] E' ta') (gName j)) (tSeq (tIfS tt (tRet te) tNext) (tSeq tm tm')))) s ρ R N :=
  show WS T (tSeq (tAsg (tCall (spD P) [] E ta) (gName i)) (tSeq (tAsg (tCall (spD P') [] E' ta') (gName j)) (tSeq (tIfS tt (tRet te) tNext) (tSeq tm (tSeq tm' tNext))))) s ρ R N from ws_mut2G N (fun _ _ z => ws_next z) hi hj h ij
end

/-! ### by any turns the same worth -/
theorem Cn.turn_val {ws : List Int} (hw : Ws ws) : ∀ (c : Cn) (ts : List Int), c.ok → (c.turn ts).val ws = c.val ws
  | .look _, _, _ => rfl
  | .nt c, ts, ok => by show 1 - (c.turn ts).val ws = 1 - c.val ws; rw [c.turn_val hw ts ok]
  | .pr b x y, ts, ok => by
    have hx := x.val_bit hw ok.1
    have hy := y.val_bit hw ok.2
    have ex : ∀ us, (x.turn us).val ws = x.val ws := fun us => x.turn_val hw us ok.1
    have ey : ∀ us, (y.turn us).val ws = y.val ws := fun us => y.turn_val hw us ok.2
    unfold Cn.turn
    split
    · show (if (y.turn _).val ws = stops b then (y.turn _).val ws else (x.turn _).val ws) = (if x.val ws = stops b then x.val ws else y.val ws)
      rw [ex, ey]
      have hs : stops b = 0 ∨ stops b = 1 := by cases b <;> simp [stops]
      split <;> split <;> omega
    · show (if (x.turn _).val ws = stops b then (x.turn _).val ws else (y.turn _).val ws) = (if x.val ws = stops b then x.val ws else y.val ws)
      rw [ex, ey]
theorem turn_same {c : Cn} (ok : c.ok) (ts : List Int) : sameWorth c (c.turn ts) = true := by
  unfold sameWorth
  rw [List.all_eq_true]
  intro n _
  rw [decide_eq_true_eq, c.turn_val (wsOf_ws _) ts ok]
theorem nice_lD (ts : List Int) (h : ts.length ≤ 1000) : nice (lD ts) = true ∧ (lD ts).depth ≤ 2 := by
  refine ⟨nice_ints ts (by omega), ?_⟩
  unfold lD
  rw [depth_list]
  have := (lay_ints ts).2
  omega
theorem nice_rowF (k : Int) (ts r : List Int) (h : ts.length ≤ 1000) (h' : r.length ≤ 1000) : nice (rowF k ts (r.map .int)) = true ∧ (rowF k ts (r.map .int)).depth ≤ 3 := by
  obtain ⟨h1, h2⟩ := nice_lD ts h
  have h3 : niceAll (r.map PyData.int) = true := niceAll_of fun d m => by obtain ⟨i, _, rfl⟩ := List.mem_map.mp m; rfl
  refine ⟨?_, depth_row ⟨k, ts, r, rfl⟩⟩
  unfold rowF
  simp only [nice, niceAll, h1, h3, Bool.and_true, Bool.true_and, decide_eq_true_eq, List.length_cons, List.length_map]
  omega

/-! ### a comprehension's list as a list of one's own -/
section
variable {T : Sto} {A0 : Addr → Prop} {H0 : Hp} {B : Addr → Prop} {σ : L2.St} {H : Hp} {s : T.S} {ρ : DEnv}
theorem Cxt.setOwn (c : Cxt T A0 H0 B σ H s ρ) {i : Nat} {p : Addr} {vs : List V} {xs : List PyData} (hi : i < ρ.length) (hb : B p) (nf : ¬ T.F p) (n0 : H0 p = none) (hp : H p = some (.lst vs)) (d : DDs (cut B H) vs xs)
    (nown : ∀ (j : Nat), σ[j]? = some (some (.ref p)) → ∀ ys, ρ[j]? ≠ some (some (.own ys))) : Cxt T A0 H0 B (σ.set i (some (.ref p))) H s (ρ.set i (some (.own xs))) := by
  have hi2 : i < σ.length := by rw [c.ln]; exact hi
  refine ⟨c.fb, c.dm, c.at_, by rw [List.length_set, List.length_set]; exact c.ln, fun j w q => ?_, c.fr, c.ab, c.d0, c.ba, fun j k ys zs q h1 h2 h3 h4 h5 => ?_, c.ex⟩
  · rw [join_set hi2]
    rw [List.getElem?_set] at q
    by_cases e' : i = j
    · rw [if_pos e', if_pos hi] at q
      rw [if_pos e']
      cases q
      exact ⟨p, vs, rfl, hb, nf, n0, hp, d⟩
    · rw [if_neg e'] at q
      rw [if_neg e']
      exact c.sl j w q
  · rw [List.getElem?_set] at h1 h2 h4 h5
    by_cases e1 : i = j
    · rw [if_pos e1, if_pos hi2] at h4
      cases h4
      have e2 : ¬ i = k := fun z => h3 (e1.symm.trans z)
      rw [if_neg e2] at h2 h5
      exact nown k h5 zs h2
    · rw [if_neg e1] at h1 h4
      by_cases e2 : i = k
      · rw [if_pos e2, if_pos hi2] at h5
        cases h5
        exact nown j h4 ys h1
      · rw [if_neg e2] at h2 h5
        exact c.ow j k ys zs q h1 h2 h3 h4 h5
end
section
variable {T : Sto} {s : T.S} {ρ : DEnv} {te : TE} {vs : List Nat} {g : TG} {ta : TA} {R : PyData → T.S → Prop} {N : DEnv → T.S → Prop} {j : Nat}
theorem ws_ownLcP_range (P : PyData → Prop) (gi : GIn g vs) (hj : j < ρ.length) (h : WA T ta s ρ fun xs s1 => ∃ n : Nat, xs = [.int (n : Int)] ∧ n ≤ 10000 ∧ (∀ (i : Nat) s', i < n → WG T g (.int (i : Int)) s' (wipeE ρ vs) fun ρ2 s2 => WE T te s2 ρ2 fun y _ => P y) ∧ ∀ ys s', ys.length = n → (∀ y ∈ ys, P y) → N (ρ.set j (some (.own ys))) s') :
    WS T (tAsg (tLc (iRng1 ta) g tYes te vs) (gName j)) s ρ R N := fun A0 H0 B σ H c D r nn =>
  h A0 H0 B σ H c _ fun v H1 x s1 ⟨n, ex, hm, hs, hd⟩ e a d => by
    subst ex
    cases d with
    | cons d1 d2 =>
      cases d1
      cases d2
      have c1 := c.step e a
      refine ⟨(n : Int), rfl, by omega, by omega, fun L hL => lc_range (lo := 0) (n := ((n : Int)).toNat) (LcI T B H1 L fun i acc s' => acc.length = i ∧ ∀ y ∈ acc, P y) ⟨[], [], s1, ⟨rfl, fun _ z => nomatch z⟩, upd_same, .nil, T.loc s1 H1 _ (fun b o _ q => same_new hL b o q) c1.at_, fun b o q _ z => (by rw [upd_ne z]; exact q)⟩ (fun i H' hi q => ?_) fun H' q => ?_⟩
      · have e0 : (0 : Int) + (i : Int) = (i : Int) := Int.zero_add _
        rw [e0]
        refine lc_turn gi c1 hL q (.int _) fun acc s' ⟨e1, e2⟩ => ?_
        have hlen : acc.length < 100000 := by rw [e1]; omega
        intro A0 H0 B σ H c v hv Q k
        refine hs i s' (by omega) A0 H0 B σ H c v hv Q fun σ' ρ' hw c' => k σ' ρ' ?_ c'
        refine wt_yes ?_
        show WE T te _ ρ' _
        refine WE.mono hw fun y s4 hy => ⟨hlen, by rw [List.length_append, e1]; rfl, fun z hz => ?_⟩
        rcases List.mem_append.mp hz with hz | hz
        · exact e2 z hz
        · rw [List.mem_singleton.mp hz]; exact hy
      · obtain ⟨acc, us, s', ⟨i1, i2⟩, hL', hu, a', e'⟩ := q
        have c2 := c1.comp hL e' hL' a'
        have nb : ¬ B L := fun z => c1.dm L z hL
        have nf : ¬ T.F L := fun z => nb (c1.fb L z)
        have n0 : H0 L = none := by
          cases q : H0 L with
          | none => rfl
          | some o => rw [c1.fr L o q nf] at hL; cases hL
        refine nn _ _ _ s' _ (hd acc s' (by omega) i2) (c2.setOwn hj (.inr rfl) nf n0 hL' hu fun k hk ys q => ?_)
        obtain ⟨p', vs', h1, h2, _⟩ := c1.sl k _ q
        have z := join_some h1
        rw [hk] at z
        cases z
        exact nb h2
end
/-! the scope of a comprehension that an assignment holds -/
def lcScope : Expr → Scope
  | .ListComp _ _ sc _ => sc
  | _ => { kind := .function, names := [], isGenerator := false, isCoroutine := false }
def asgVal : Stmt → Expr
  | .Assign _ e _ => e
  | _ => .Name "" ⟨0, 0, 0, 0⟩
end J

namespace J
open PySem L2
/-! ### defs that may raise -/
@[reducible] def xS (E : XK) (Z : Addr → Option Int → Prop) : Sto := ⟨Unit, fun _ => False, fun _ _ => True, fun _ _ _ _ h => h, fun _ _ _ _ h => h.elim, E, fun C k _ => Z C k⟩
@[reducible] def Sto.X (T : Sto) (E : XK) (Z : Addr → Option Int → T.S → Prop) : Sto := ⟨T.S, T.F, T.At, T.loc, T.dom, E, Z⟩
abbrev PreX := List PyData → (PyData → Prop) → (Addr → Option Int → Prop) → Prop
def spX (P : PreX) : Sp := fun vs H Q E => ∃ (B : Addr → Prop) (ds : List PyData) (Ψ : PyData → Prop) (Ξ : Addr → Option Int → Prop), (∀ a, B a → H a ≠ none) ∧ DDs (cut B H) vs ds ∧ P ds Ψ Ξ ∧ (∀ v H' x, Ψ x → Same H H' → DD (cut B H') v x → Q v H') ∧
  ∀ C k dd H', Ξ C k → Same H H' → ExD (fun _ => False) k dd H H' → E (.ref C) dd H'
theorem zeroX {Pr : PreX} (h : ∀ ds Ψ Ξ, ¬ Pr ds Ψ Ξ) : ∀ vs H Q E, ¬ spX Pr vs H Q E := fun vs H Q E ⟨_, ds, Ψ, Ξ, _, _, p, _⟩ => h ds Ψ Ξ p
section
variable {T : Sto} {s : T.S} {ρ : DEnv} {Φ : PyData → T.S → Prop} {R : PyData → T.S → Prop} {N : DEnv → T.S → Prop} {ta : TA} {te : TE}
theorem wp_callX {P : PreX} {E : XK} (hE : E = T.E) (h : WA T ta s ρ fun xs s1 => P xs (fun x => Φ x s1) (fun C k => T.Z C k s1)) : WE T (tCallS (spX P) (fun _ => E) ta) s ρ Φ := fun A0 H0 B σ H c Q k =>
  h A0 H0 B σ H c _ fun vs H1 xs s1 h1 e1 a1 d1 => by
    subst hE
    have c1 := c.step e1 a1
    refine ⟨B, xs, _, _, c1.dm, d1, h1, fun v H' x hx e d => k v H' x s1 hx (e1.trans (Fr.of e)) (T.loc s1 H1 H' (fun a o _ q => e a o q) a1) d, fun C kk dd H' hz e x => ?_⟩
    have a' := T.loc s1 H1 H' (fun a o _ q => e a o q) a1
    refine c1.ex C kk s1 H' dd hz (c1.fr.trans (Fr.of e)) a' ?_
    have x' : ExD T.F kk dd H1 H' := by
      cases kk with
      | none => exact x
      | some n =>
        obtain ⟨d, g1, g2, _, g4⟩ := x
        exact ⟨d, g1, g2, fun z => T.dom s1 H1 d a1 z g2, g4⟩
    exact x'.up c1.fr
/-- raise X('..') -/
def tRaiseO (E : XK) (C : Addr) : TS := fun _ _ H => E (.ref C) none H
theorem ws_raiseO {C : Addr} {E : XK} (hE : E = T.E) (h : T.Z C none s) : WS T (tRaiseO E C) s ρ R N := fun A0 H0 B σ H c D r n => by
  subst hE
  exact c.ex C none s H none h c.fr c.at_ rfl
/-- X.__init__(self, place) -/
def spInit (K : PySem.W.Frag) : Sp := fun vs H Q _ => ∃ (a C : Addr) (k : Int), vs = [.ref a, .int k] ∧ OexC K C ∧ PySem.W.findIn K (.ref C) "place" = some none ∧ H a = some (exo a C none) ∧
  ∀ d, H d = none → d ≠ a → Q .non (upd (upd H d (exd d [("place", .int k)])) a (exo a C (some d)))
/-- raise X(e) -/
def tRaiseP (K : PySem.W.Frag) (E : XK) (C : Addr) (ta : TA) : TS := fun _ σ H => tMkO C (spInit K) [] ta σ H fun cls d H' => E cls d H'
theorem ws_raiseP {K : PySem.W.Frag} {C : Addr} {E : XK} (hE : E = T.E) (TC : OexC K C) (hno : PySem.W.findIn K (.ref C) "place" = some none) (h : WE T te s ρ fun x s1 => ∃ k, x = .int k ∧ T.Z C (some k) s1) : WS T (tRaiseP K E C (tCons te tNil)) s ρ R N := fun A0 H0 B σ H c D r n => by
  subst hE
  refine h A0 H0 B σ H c _ fun v H1 x s1 ⟨k, ex, hz⟩ e1 a1 d1 => ?_
  subst ex
  cases d1
  have c1 := c.step e1 a1
  refine ⟨Nat.le_of_ble_eq_true rfl, fun a ha => ⟨a, C, k, rfl, TC, hno, upd_same, fun d hd hne => ⟨rfl, d, [("place", .int k)], upd_same, ?_, ?_, ?_⟩⟩⟩
  · rw [upd_ne hne, upd_same]
  · rw [upd_ne hne] at hd
    exact hd
  · rw [upd_ne hne] at hd
    have sm : Same H1 (upd (del (upd (upd (upd H1 a (exo a C none)) d (exd d [("place", .int k)])) a (exo a C (some d))) a) d (.xd [("place", .int k)])) := fun b o q => by
      have nd : b ≠ d := fun z => by rw [z, hd] at q; cases q
      have na : b ≠ a := fun z => by rw [z, ha] at q; cases q
      rw [upd_ne nd, del_ne na, upd_ne na, upd_ne nd, upd_ne na]
      exact q
    have x' : ExD T.F (some k) (some d) H1 (upd (del (upd (upd (upd H1 a (exo a C none)) d (exd d [("place", .int k)])) a (exo a C (some d))) a) d (.xd [("place", .int k)])) := ⟨d, rfl, hd, fun z => T.dom s1 H1 d a1 z hd, upd_same⟩
    exact c1.ex C (some k) s1 _ (some d) hz (c1.fr.trans (Fr.of sm)) (T.loc s1 H1 _ (fun a o _ q => sm a o q) a1) (x'.up c1.fr)
end
theorem cxt_startX {E : XK} {Ξ : Addr → Option Int → Prop} {N : List Str} {vs : List V} {ds : List PyData} {B : Addr → Prop} {H : Hp} (dm : ∀ a, B a → H a ≠ none) (d : DDs (cut B H) vs ds) (ex : ∀ C k dd H', Ξ C k → Same H H' → ExD (fun _ => False) k dd H H' → E (.ref C) dd H') :
    Cxt (xS E Ξ) B H B (L2.start N vs) H () (init N ds) := by
  have c := cxt_start (N := N) dm d
  exact ⟨c.fb, c.dm, trivial, c.ln, fun i w q => by
    have z := c.sl i w q
    cases w with
    | d x => exact z
    | v x => exact z
    | own xs => exact z, c.fr, c.ab, c.d0, c.ba, c.ow, fun C k _ H' dd hz e _ x => ex C k dd H' hz e.same x⟩
/-- a def of data that may raise -/
theorem fnX {P : Program} {w : World} {K : PySem.W.Frag} {mg : Str → Option Value} {base : Heap} {x qual : Str} {st : Stmt} {f : Addr} {fd : FuncData} {N ps : List Str} {k : Nat} {Pr : PreX} {t : XK → TS} (F : Fun K x qual st f fd) (S : FnScope N ps (defScope st))
    (len : ∀ ds Ψ Ξ, Pr ds Ψ Ξ → ds.length = ps.length)
    (hb : ∀ (cdv : Value) (A : Around) (outer : List PySem.Env) (s : Shared) (H : Hp) (E : XK), Room k (A.deeper (PyProof.Rows.envOfC qual (defScope st) s.heap.objs.size f cdv)) → PSs (cxOf (L2.CX P w) P w K mg base N qual (defScope st) f cdv A outer s H E) (defBody st) (t E))
    (hw : ∀ E ds Ψ Ξ, Pr ds Ψ Ξ → WS (xS E Ξ) (t E) () (init N ds) (fun x _ => Ψ x) (fun _ _ => Ψ .none)) : FnOk P w K mg base (L2.CX P w) (k + 1) f fd ps (spX Pr) := by
  refine F.okX S (fun vs H Q E h => ?_) (fun cdv A outer s H vs Q E hr h => ?_)
  · obtain ⟨B, ds, Ψ, Ξ, _, d, p, _⟩ := h
    rw [d.len]
    exact len ds Ψ Ξ p
  · obtain ⟨B, ds, Ψ, Ξ, dm, d, p, q, ex⟩ := h
    refine ⟨t E, hb cdv A outer s H E hr, ?_⟩
    refine hw E ds Ψ Ξ p B H B _ H (cxt_startX dm d ex) _ (fun v H' y s' hy e _ d' => q v H' y hy e.same d') fun B' σ' H' s' ρ' hn c => q .non H' .none hn c.fr.same .non
def CalX (P : Program) (w : World) (K : PySem.W.Frag) (mg : Str → Option Value) (base : Heap) (k : Nat) (x : Str) (ps : List Str) (sp : Sp) : Prop :=
  ∃ (f : Addr) (fd : FuncData), mg x = some (.ref f) ∧ PySem.W.keepIn K (.ref f) = true ∧ Binds K fd ps [] ∧ FnOk P w K mg base (L2.CX P w) k f fd ps sp
theorem calX_zero {P : Program} {w : World} {K : PySem.W.Frag} {mg : Str → Option Value} {base : Heap} {k : Nat} {x : Str} {ps : List Str} {sp : Sp} {f : Addr} {fd : FuncData} (kp : PySem.W.keepIn K (.ref f) = true) (m : mg x = some (.ref f)) (B : Binds K fd ps []) (z : ∀ vs H Q E, ¬ sp vs H Q E) :
    CalX P w K mg base k x ps sp := ⟨f, fd, m, kp, B, ⟨fun vs H Q E h => absurd h (z vs H Q E), fun A outer s H args us vs Q E _ _ _ _ h => absurd h (z vs H Q E)⟩⟩
section
variable {X : Cx} {k : Nat} {ps : List Str} {sp : Sp} {x : Str} {p pos : Pos} {e : Expr} {es : List Expr} {t : TA} {W : WX}
/-- a call that may raise: W is what is wished of exceptions -/
theorem pe_callX (h : CalX X.prog X.w X.K X.mg X.base k x ps sp) (hr : Room k X.A) (tk : Takes X W) (hg : Gl X x) (ha : PA X (e :: es) t) (hdb : (x == ("__debug__" : Str)) = false := by decide) (he : starEach (e :: es) X.env = (false, eval e X.env) :: starEach es X.env := by rfl)
    (hpl : (backTo pos (starEach es X.env)).any (·.1) = false := by rfl) : PE X (.Call (.Name x p) (e :: es) [] pos) (tCallS sp (L2.WE W) t) := by
  obtain ⟨f, fd, hm, hk, hb, F⟩ := h
  exact pe_callS F hr hg hm hk hb (fun σ => passAt tk σ) ha hdb he hpl
end
end J

namespace J
open PySem L2
/-! ### own exceptions, raised -/
/-- a class without an __init__ of its own -/
structure ExcO (K : PySem.W.Frag) (C : Addr) : Prop where
  q : PySem.W.excIn K C [.type "ValueError", .type "Exception", .type "BaseException", .type "object"] "ValueError.__new__" = true
  kC : PySem.W.keepIn K (.ref C) = true
  bC : PySem.W.subIn K (.ref C) (.type "BaseException") = some true
  tC : PySem.W.typeIn K (.ref C) = some (.type "type")
theorem ps_raiseO {X : Cx} {C : Addr} {E : XK} {x m : Str} {j : Nat} {p p2 pos pos' : Pos} (hc : X.calm = true) (tk : Takes X fun cls d _ H => E cls d H) (o : ExcO X.K C) (gC : X.mg x = some (.ref C)) (hg : Gl X x) (hdb : (x == ("__debug__" : Str)) = false := by decide) :
    PS X (.Raise (some (.Call (.Name x p) [.Constant (.str m) j p2] [] pos)) none pos') (tRaiseO E C) :=
  ps_raise hc tk (pmk_own PySem.F.excBase_ValueError o.q gC o.kC (raises_own o.bC o.tC) hg hdb)
/-- a class whose __init__ puts down a place -/
structure ExcP (P : Program) (w : World) (K : PySem.W.Frag) (mg : Str → Option Value) (base : Heap) (C : Addr) : Prop where
  T : OexC K C
  no : PySem.W.findIn K (.ref C) "place" = some none
  ini : ∃ (fI : Addr) (fd : FuncData), PySem.W.findIn K (.ref C) "__init__" = some (some (.ref fI)) ∧ PySem.W.typeIn K (.ref fI) = some (.type "function") ∧ Binds K fd ["self", "place"] [] ∧ FnOk P w K mg base CX0 1 fI fd ["self", "place"] (spInit K)
theorem ps_raiseP {X : Cx} {C : Addr} {E : XK} {x : Str} {p pos pos' : Pos} {e : Expr} {es : List Expr} {ta : TA} (hc : X.calm = true) (tk : Takes X fun cls d _ H => E cls d H) (o : ExcP X.prog X.w X.K X.mg X.base C) (gC : X.mg x = some (.ref C)) (hr : Room 2 X.A) (hg : Gl X x) (ha : PA X (e :: es) ta)
    (hdb : (x == ("__debug__" : Str)) = false := by decide) (he : starEach (e :: es) X.env = (false, eval e X.env) :: starEach es X.env := by rfl) (hpl : (backTo pos (starEach es X.env)).any (·.1) = false := by rfl) :
    PS X (.Raise (some (.Call (.Name x p) (e :: es) [] pos)) none pos') (tRaiseP X.K E C ta) := by
  obtain ⟨fI, fd, h1, h2, h3, F⟩ := o.ini
  exact ps_raise hc tk (pmk_oex o.T h1 h2 F hr h3 .nil pass0 hg gC ha hdb he hpl)
/-! X.__init__(self, ..) said by a base class of the text's own -/
structure JIni (K : PySem.W.Frag) (CJ : Addr) : Prop where
  rd : PySem.W.readsIn K CJ (.type "type") = true
  ga : PySem.W.specialIn K (.ref CJ) "__getattribute__" = some (some (.builtin "type.__getattribute__"))
  at_ : PySem.W.findCls K (.ref CJ) (.type "type") "__init__" = some (.val (.builtin "ValueError.__init__"))
theorem pe_jini {X : Cx} {CJ : Addr} {x : Str} {e : Expr} {es : List Expr} {ta : TA} {p1 p2 pos : Pos} {pl : Sem Bool} (ji : JIni X.K CJ) (hg : Gl X x) (hm : X.mg x = some (.ref CJ)) (ha : PA X (e :: es) ta)
    (hc : eval (.Call (.Attribute (.Name x p1) "__init__" p2) (e :: es) [] pos) X.env = (do
      let ov ← eval (.Name x p1) X.env
      standAt p2.atName
      let (fn, fst) ← holding [ov] (getMethod ov "__init__" pl)
      callWith pos fn fst (backTo pos (starEach (e :: es) X.env)) (backToKw pos (keywordEach [] X.env))) := by rfl)
    (hdb : (x == ("__debug__" : Str)) = false := by decide) (he : starEach (e :: es) X.env = (false, eval e X.env) :: starEach es X.env := by rfl) (hpl : (backTo pos (starEach es X.env)).any (·.1) = false := by rfl) :
    PE X (.Call (.Attribute (.Name x p1) "__init__" p2) (e :: es) [] pos) (tVeI X.K ta) := by
  refine ⟨fun pins s σ H Q I h => ?_⟩
  refine PySem.W.methodCall_KW (ld_glob I hg hm ?_ hdb) hc
  refine PySem.W.method_cls I.kIn ji.ga (PySem.W.cls_value I.kIn ji.rd ji.at_ (by decide +kernel) ?_)
  show wpAny _ _ (callWith pos (Value.builtin "ValueError.__init__") [] (backTo pos (starEach (e :: es) X.env)) []) _ _ _
  refine PyProof.Rows.callWith_method1 (thn (ha.run pos pins _ σ H _ (I.tok _) h) fun us s1 hh => ?_) he hpl
  obtain ⟨vs, H1, I1, r1, a, C, ws, ev, hl, T, ea, q⟩ := hh
  subst ev
  cases r1 with
  | cons ra rw' =>
    rename_i u0 ur
    obtain rfl : u0 = Value.ref a := ra
    refine oinit_ok T I1 ea ?_ fun s' J => ⟨.non, H1, J, rfl, q⟩
    rw [← Paired.length rw', sizeLine_eq]
    omega
theorem fnInit {P : Program} {w : World} {K : PySem.W.Frag} {mg : Str → Option Value} {base : Heap} {qual m : Str} {st : Stmt} {f : Addr} {fd : FuncData} (F : Fun K "__init__" qual st f fd) (S : FnScope ["self", "place"] ["self", "place"] (defScope st))
    (hb : ∀ (cdv : Value) (A : Around) (outer : List PySem.Env) (s : Shared) (H : Hp) (E : XK), Room 0 (A.deeper (PyProof.Rows.envOfC qual (defScope st) s.heap.objs.size f cdv)) → PSs (cxOf CX0 P w K mg base ["self", "place"] qual (defScope st) f cdv A outer s H E).nox (defBody st)
      (tSeq (tDrop (tVeI K (tCons (tVar 0) (tCons (tC (.str m)) tNil)))) (tOst K "place" (tVar 0) (tVar 1)))) : FnOk P w K mg base CX0 1 f fd ["self", "place"] (spInit K) := by
  refine fnR F S (fun vs H Q E h => ?_) hb fun vs H Q E h => ?_
  · obtain ⟨a, C, k, rfl, _⟩ := h
    rfl
  · obtain ⟨a, C, k, rfl, T, no, ha, q⟩ := h
    exact ⟨_, rfl, a, C, [.str m], rfl, Nat.le_of_ble_eq_true rfl, T, ha, _, rfl, _, rfl, a, C, rfl, T, no, .inl ⟨ha, fun dx h1 h2 => q dx h1 h2⟩⟩
/-! ### a def that is called in an except suite, handed the exception -/
structure FnS (P : Program) (w : World) (K : PySem.W.Frag) (mg : Str → Option Value) (base : Heap) (k : Nat) (f : Addr) (fd : FuncData) (ps : List Str) (sp : Addr → Addr → Option Addr → Sp) : Prop where
  len : ∀ a C d vs H Q E, sp a C d vs H Q E → vs.length = ps.length
  go : ∀ (A : Around) (out : List PySem.Env) (s : Shared) (H : Hp) (args : Args) (us : List Value) (vs : List V) (Q : VK) (p : Addr × Obj) (C : Addr) (d : Option Addr), L2H.RoomH k A → L2H.PinOk out H s p → Zc (.ref C) d p.2 → (∃ fs, p.2.data = .fields fs) →
    Env0 P w K mg base A out s H → BindsTo s fd args (ps.zip us) → Vals vs us → sp p.1 C d vs H Q E0 → PySem.codeAny (model P w) A (.call (.ref f) args) (CR CX0 out P w H s Q E0) s
section
variable {P : Program} {w : World} {K : PySem.W.Frag} {mg : Str → Option Value} {base : Heap} {x qual : Str} {st : Stmt} {f : Addr} {fd : FuncData} {N ps : List Str} {k : Nat} {sp : Addr → Addr → Option Addr → Sp}
open PyProof.Rows in
theorem FnS.of (F : Fun K x qual st f fd) (S : FnScope N ps (defScope st)) (len : ∀ a C d vs H Q E, sp a C d vs H Q E → vs.length = ps.length)
    (hb : ∀ (cdv : Value) (A : Around) (out : List PySem.Env) (s : Shared) (H : Hp) (vs : List V) (Q : VK) (p : Addr × Obj) (C : Addr) (d : Option Addr), L2H.RoomH k (A.deeper (envOfC qual (defScope st) s.heap.objs.size f cdv)) → Zc (.ref C) d p.2 → (∃ fs, p.2.data = .fields fs) → sp p.1 C d vs H Q E0 →
      ∃ t, PSs (L2H.cxH CX0 P w K mg base N qual (defScope st) f cdv A out s H E0 p) (defBody st) t ∧ t { nx := fun _ H' => Q .non H', rt := Q } (L2.start N vs) H) : FnS P w K mg base (k + 1) f fd ps sp := by
  obtain ⟨oc, od, kV, dc, pm, an, cdv, ct, sl, rfl, lk, code⟩ := F.ex
  refine ⟨len, fun A out s H args us vs Q p C d room pin hz hf env bind vals hs => ?_⟩
  have kin : K.In s.heap := env.mod.kin.keeps fun b o e => (env.bs b o e).1
  have names : ∀ y ∈ ps.zip us, (defScope st).names.lookup y.1 = some .local ∨ ((defScope st).names.lookup y.1 = some .cell ∧ ((cellsFrom (s.heap.objs.size + 1) (defScope st).names []).lookup y.1).isSome = true) := fun y hy => by
    have hy1 := (List.of_mem_zip (a := y.1) (b := y.2) hy).1
    exact (S.par y.1 hy1).imp id fun z => ⟨z, PySem.W.cellsFrom_some _ _ _ (.inl z)⟩
  refine codeAny_call_function room.depth (kin _ _ lk) rfl S.co S.gen rfl (PySem.W.codeRec_of kin code) (bind _ _ _ _ ?_)
  refine wpAny_newFunctionEnv_cells S.kind names fun en en_eq s1 there => ?_
  subst en_eq
  have nolim := env.mod.nolimit.keeps fun b o e => (env.bs b o e).1
  refine ⟨nolim.keeps there.toInCall.keep, codeAny_func ?_⟩
  obtain ⟨t, run, q⟩ := hb cdv A out s H vs Q p C d (room.deeper _) hz hf hs
  have inv := L2H.inv_startH (CX := CX0) (E := E0) (qual := qual) S pin env (len _ _ _ _ _ _ _ hs) vals there
  refine wpAny_mono (run.run [] s1 (L2.start N vs) H _ inv q) (fun fl s' z => ?_) fun e s' z => z
  cases fl with
  | ret u =>
    obtain ⟨v, σ', H', J1, rv, q'⟩ := z
    exact ⟨v, H', J1.os, J1.bare, J1.base, J1.hok, rv, q'⟩
  | next =>
    obtain ⟨σ', H', J1, q'⟩ := z
    exact ⟨V.non, H', J1.os, J1.bare, J1.base, J1.hok, (rfl : RelV .non .none), q'⟩
  | brk =>
    obtain ⟨_, _, _, q'⟩ := z
    exact q'.elim
  | cont =>
    obtain ⟨_, _, _, q'⟩ := z
    exact q'.elim
end
def CalS (P : Program) (w : World) (K : PySem.W.Frag) (mg : Str → Option Value) (base : Heap) (k : Nat) (x : Str) (ps : List Str) (sp : Addr → Addr → Option Addr → Sp) : Prop :=
  ∃ (f : Addr) (fd : FuncData), mg x = some (.ref f) ∧ PySem.W.keepIn K (.ref f) = true ∧ Binds K fd ps [] ∧ FnS P w K mg base k f fd ps sp
/-- its call in the suite that holds the exception at a -/
def tCallE (a : Addr) (cls : Value) (d : Option Addr) (sp : Addr → Addr → Option Addr → Sp) (t : TA) : TE := fun σ H Q => t σ H fun vs H1 => ∃ C, cls = .ref C ∧ sp a C d vs H1 Q E0
theorem pe_callE {X : Cx} {k : Nat} {ps : List Str} {sp : Addr → Addr → Option Addr → Sp} {x : Str} {p pos : Pos} {e : Expr} {es : List Expr} {t : TA} {a : Addr} {oe : Obj} {cls : Value} {d : Option Addr} {pn : List (Addr × Obj)} (h : CalS X.prog X.w X.K X.mg X.base k x ps sp) (hr : Room k X.A)
    (hz : Zc cls d oe) (hf : ∃ fs, oe.data = .fields fs) (hg : Gl X x) (ha : PA (X.suite a ((a, oe) :: pn)) (e :: es) t) (hdb : (x == ("__debug__" : Str)) = false := by decide) (he : starEach (e :: es) X.env = (false, eval e X.env) :: starEach es X.env := by rfl)
    (hpl : (backTo pos (starEach es X.env)).any (·.1) = false := by rfl) : PE (X.suite a ((a, oe) :: pn)) (.Call (.Name x p) (e :: es) [] pos) (tCallE a cls d sp t) := by
  obtain ⟨f, fd, hm, hk, hb, F⟩ := h
  refine ⟨fun pins s σ H Q I h => ?_⟩
  refine wpAny_Call_Name_kw (ld_glob I hg hm ?_ hdb)
  refine PySem.W.callWith_K (h₀ := X.base) I.ok.mod.kin hk (thn (ha.run pos pins s σ H _ I h) fun us s1 hh => ?_) he hpl
  obtain ⟨vs, H1, I1, r, C, rfl, q⟩ := hh
  refine ⟨I1.kIn, ?_⟩
  have hl : us.length = ps.length := by rw [← Paired.length r]; exact F.len _ _ _ _ _ _ _ q
  have b := hb s1 us I1.kIn (by rw [List.append_nil]; exact hl)
  rw [List.append_nil] at b
  obtain ⟨p1, p2, p3, p4, p5⟩ := I1.pin (a, oe) (List.mem_append_left _ List.mem_cons_self)
  have ok : L2H.PinOk X.stack H1 s1 (a, oe) := ⟨p1, p2, fun hm => (List.mem_cons.mp (I1.stkSub a hm)).elim p3 p4, p5⟩
  refine wpAny_call (codeAny_mono (F.go _ X.stack s1 H1 ⟨us, []⟩ us vs Q (a, oe) C d ⟨hr.dp, hr.un⟩ ok hz hf I1.env0 b r q) fun res s' hq => ?_)
  cases res with
  | error e => exact False.elim hq
  | ok fl =>
    cases fl with
    | ret u => exact I1.after hq
    | next => exact False.elim hq
    | brk => exact False.elim hq
    | cont => exact False.elim hq
/-! isinstance of such an exception -/
def rIsX (K : PySem.W.Frag) (C a : Addr) (d : Option Addr) : List V → Hp → VK → Prop := fun xs H Q => ∃ (c : V) (cv : Value) (b : Bool), xs = [.ref a, c] ∧ ClsV c cv ∧ PySem.W.kitOne K (.ref C) cv = some b ∧ (∀ dd, d = some dd → ∃ fs, H dd = some (.xd fs)) ∧ Q (.bl b) H
theorem call_isX {X : Cx} {p : Addr × Obj} {C : Addr} {d : Option Addr} (T : ExcC X.K C) (hp : p ∈ X.pn) (hz : Zc (.ref C) d p.2) (hf : ∃ fs, p.2.data = .fields fs) : CallR X (.builtin "isinstance") (rIsX X.K C p.1 d) := by
  intro pins s σ H xs us Q I r h
  obtain ⟨c, cv, b, rfl, hc, e, hd, q⟩ := h
  obtain ⟨u1, u2, rfl, r1, r2⟩ := vals2 r
  have e2 := hc.eq r2
  subst e2
  obtain rfl : u1 = Value.ref p.1 := r1
  have hget := (I.pin p (List.mem_append_left _ hp)).1
  obtain ⟨fs, hfs⟩ := hf
  have inst : ∃ od, PySem.W.InstAt s.heap p.1 p.2 C od := by
    cases d with
    | none => exact ⟨none, hget, hz.1, by unfold PySem.W.notCls; rw [hfs] <;> rfl, by rw [hz.2]; trivial⟩
    | some dd =>
      obtain ⟨ys, hy⟩ := hd dd rfl
      obtain ⟨mA, hns, _⟩ := (show ObjOk X.prog X.w H s.heap dd (.xd ys) from I.hok dd _ hy)
      obtain ⟨od, ho, _⟩ := lookIn_ns hns
      exact ⟨some od, hget, hz.1, by unfold PySem.W.notCls; rw [hfs] <;> rfl, by rw [hz.2]; exact ho⟩
  obtain ⟨od, J1⟩ := inst
  have hcl : (PySem.W.clsIn X.K C).isSome = true := by
    obtain ⟨cd, hcd, _⟩ := PySem.W.any_some T.hd
    rw [hcd]
    rfl
  exact PySem.W.kia_one (PySem.W.kitx_exc hcl T.hg T.hk T.hs T.ha T.hn T.ht T.hm) I.kIn J1 e (fun z => nomatch z) fun tk => ⟨.bl b, H, I.tok tk, rfl, q⟩
end J

namespace J
open PySem L2
/-! ### xs.count(x), flat items -/
def rCntF (K : PySem.W.Frag) : V → List V → Hp → VK → Prop := fun x xs H Q => ∃ (p : Addr) (ys : List V) (y : V), x = .ref p ∧ xs = [y] ∧ SqL K H p ys ∧ flatV y = true ∧ ys.all flatV = true ∧ Q (.int ((ys.countP fun z => eqV z y : Nat) : Int)) H
theorem cnt_vals {y : V} {uy : Value} : ∀ {ys : List V} {its : List Value}, Vals ys its → ys.all flatV = true → its.countP (eqU y) = ys.countP fun z => eqV z y
  | _, _, .nil, _ => rfl
  | z :: ys, u :: its, .cons r t, h => by
    rw [List.all_cons, Bool.and_eq_true] at h
    rw [List.countP_cons, List.countP_cons, cnt_vals (uy := uy) t h.2, eqU_of r h.1]
theorem mt_cntF {X : Cx} : MtR X "list.count" (rCntF X.K) := by
  intro pins s σ H x xs v us Q I rx rxs h
  obtain ⟨p, ys, y, rfl, rfl, hs, fy, fys, q⟩ := h
  cases rx
  obtain ⟨uy, rfl, ry⟩ := vals1 rxs
  obtain ⟨its, rv, ⟨⟨cls, dd, data, sl⟩, n, ho, hc, hdn, hd⟩, hlen⟩ := I.list hs
  simp only at hc hd
  subst hc hd
  refine call_meets PySem.F.slot_list_count ⟨_, ho, rfl⟩ PySem.F.entry_list_count (PySem.F.args_list_count_2 _ _)
    (SeqAt.list_countAt p its.toArray n dd sl uy (eqU y)) ⟨ho, fun u' hu' => mem_eqAt ry fy rv fys u' (by simpa using hu'), ?_⟩
  refine ⟨.int ((ys.countP fun z => eqV z y : Nat) : Int), H, I.tok _, ⟨s.toks, ?_⟩, q⟩
  show Value.int ((its.toArray.toList.countP (eqU y) : Nat) : Int) s.toks = Value.int ((ys.countP fun z => eqV z y : Nat) : Int) s.toks
  rw [show its.toArray.toList = its from rfl, cnt_vals (uy := uy) rv fys]
section
variable {T : Sto} {s : T.S} {ρ : DEnv} {Φ : PyData → T.S → Prop} {to te : TE} {K : PySem.W.Frag}
theorem cnt_bls (b : Bool) : ∀ bs : List Bool, ((bs.map V.bl).countP fun z => eqV z (.bl b)) = bs.count b
  | [] => rfl
  | c :: bs => by
    rw [List.map_cons, List.countP_cons, cnt_bls b bs, List.count_cons]
    congr 1
theorem flat_bls (bs : List Bool) : (bs.map V.bl).all flatV = true := by
  rw [List.all_eq_true]
  intro z hz
  obtain ⟨b, _, rfl⟩ := List.mem_map.mp hz
  rfl
theorem wp_countB (h : WE T to s ρ fun x s1 => ∃ bs : List Bool, x = .list (bs.map .bool) ∧ WE T te s1 ρ fun y s2 => ∃ b, y = .bool b ∧ Φ (.int ((bs.count b : Nat) : Int)) s2) : WE T (tBM K "list" (rCntF K) to (tCons te tNil)) s ρ Φ := fun A0 H0 B σ H c Q k =>
  h A0 H0 B σ H c _ fun v H1 x s1 ⟨bs, ex, h1⟩ e1 a1 d1 => by
    subst ex
    cases d1 with
    | @lst p us _ hp hu =>
      have hus := hu.of_bools
      subst hus
      have hb := cut_get hp
      refine ⟨Or.inl ⟨rfl, _, SqL.of hb.1⟩, h1 A0 H0 B σ H1 (c.step e1 a1) _ fun u H2 y s2 ⟨b, ey, f⟩ e2 a2 d2 => ?_⟩
      subst ey
      cases d2
      refine ⟨p, _, .bl b, rfl, rfl, SqL.of (e2 p _ hb.1 fun z => hb.2 (c.fb p z)), rfl, flat_bls bs, ?_⟩
      rw [cnt_bls]
      exact k _ H2 _ s2 f (e1.trans e2) a2 (.int _)
theorem wp_indexB (h : WE T to s ρ fun x s1 => ∃ bs : List Bool, x = .list (bs.map .bool) ∧ WE T te s1 ρ fun y s2 => ∃ (b : Bool) (j : Nat), y = .bool b ∧ bs[j]? = some b ∧ (∀ (m : Nat) (z : Bool), m < j → bs[m]? = some z → z ≠ b) ∧ Φ (.int ((j : Nat) : Int)) s2) : WE T (tBM K "list" (rIndex K) to (tCons te tNil)) s ρ Φ := fun A0 H0 B σ H c Q k =>
  h A0 H0 B σ H c _ fun v H1 x s1 ⟨bs, ex, h1⟩ e1 a1 d1 => by
    subst ex
    cases d1 with
    | @lst p us _ hp hu =>
      have hus := hu.of_bools
      subst hus
      have hb := cut_get hp
      refine ⟨Or.inl ⟨rfl, _, SqL.of hb.1⟩, h1 A0 H0 B σ H1 (c.step e1 a1) _ fun u H2 y s2 ⟨b, j, ey, hj, hno, f⟩ e2 a2 d2 => ?_⟩
      subst ey
      cases d2
      refine ⟨p, _, .bl b, j, .bl b, rfl, rfl, SqL.of (e2 p _ hb.1 fun z => hb.2 (c.fb p z)), rfl, flat_bls bs, by rw [List.getElem?_map, hj]; rfl, ?_, fun m z' hm hz => ?_, k _ H2 _ s2 f (e1.trans e2) a2 (.int _)⟩
      · show (b == b) = true
        exact beq_self_eq_true b
      · rw [List.getElem?_map] at hz
        cases q : bs[m]? with
        | none => rw [q] at hz; cases hz
        | some i =>
          rw [q] at hz
          cases hz
          show (i == b) = false
          exact beq_eq_false_iff_ne.mpr (hno m i hm q)
/-- isinstance of the exception -/
theorem wp_isX {C a : Addr} {d : Option Addr} {i : Nat} {c : V} {cv : Value} {b : Bool} (hT : ∀ s H, T.At s H → ∀ dd, d = some dd → ∃ fs, H dd = some (.xd fs)) (hi : ρ[i]? = some (some (.v (.ref a)))) (hc : ClsV c cv) (hk : PySem.W.kitOne K (.ref C) cv = some b) (q : Φ (.bool b) s) :
    WE T (tCB (rIsX K C a d) (tCons (tVar i) (tCons (tC c) tNil))) s ρ Φ := fun A0 H0 B σ H x Q k =>
  ⟨_, join_some (x.sl i _ hi), c, cv, b, rfl, hc, hk, fun dd e => hT s H x.at_ dd e, k _ H _ s q Fr.refl x.at_ (.bl b)⟩
end
/-! ### a def that is handed an exception -/
@[reducible] def dS (d : Option Addr) (fs : List (Str × V)) : Sto := ⟨Unit, fun a => d = some a, fun _ H => ∀ a, d = some a → H a = some (.xd fs), fun _ H H' e h a z => e a _ z (h a z), fun _ H a h z => by rw [h a z]; exact (fun y => nomatch y), fun _ _ _ => False, fun _ _ _ => False⟩
def spCls (nm : Addr → Str) (ok : Addr → Prop) : Addr → Addr → Option Addr → Sp := fun a C d vs H Q _ => vs = [.ref a] ∧ ok C ∧ (∀ dd, d = some dd → ∃ fs, H dd = some (.xd fs)) ∧ ∀ H', Same H H' → Q (.str (nm C)) H'
def initC (a : Addr) (N : List Str) : DEnv := some (.v (.ref a)) :: List.replicate (N.length - 1) none
theorem start_one {a : Addr} {N : List Str} : L2.start N [.ref a] = some (.ref a) :: List.replicate (N.length - 1) none := rfl
theorem cls_run {nm : Addr → Str} {ok : Addr → Prop} {N : List Str} {a C : Addr} {d : Option Addr} {vs : List V} {H : Hp} {Q : VK} {t : TS} (h : spCls nm ok a C d vs H Q E0)
    (hw : ∀ fs, ok C → WS (dS d fs) t () (initC a N) (fun x _ => x = .str (nm C)) (fun _ _ => False)) : t { nx := fun _ H' => Q .non H', rt := Q } (L2.start N vs) H := by
  obtain ⟨rfl, hok, hd, q⟩ := h
  have hfs : ∃ fs, ∀ b, d = some b → H b = some (.xd fs) := by
    cases d with
    | none => exact ⟨[], fun _ z => nomatch z⟩
    | some dd =>
      obtain ⟨fs, e⟩ := hd dd rfl
      exact ⟨fs, fun b z => by cases z; exact e⟩
  obtain ⟨fs, hfs⟩ := hfs
  rw [start_one]
  have noD : ∀ (i : Nat) (w : W), (initC a N)[i]? = some (some w) → i = 0 ∧ w = .v (.ref a) := fun i w z => by
    cases i with
    | zero => cases z; exact ⟨rfl, rfl⟩
    | succ i =>
      have z : (List.replicate (N.length - 1) (none : Option W))[i]? = some (some w) := z
      rw [List.getElem?_replicate] at z
      split at z <;> cases z
  refine hw fs hok (fun b => d = some b) H (fun b => d = some b) _ H ⟨fun _ z => z, fun b z => ?_, fun b z => hfs b z, by simp [initC], fun i w z => ?_, Fr.refl, fun _ z => z, fun b z => ?_, fun _ z => .inl z, fun i j xs ys p z => ?_, fun _ _ _ _ _ z => z.elim⟩ _ (fun v H' x s' hx e at_ dd => ?_) fun _ _ _ _ _ z => z.elim
  · rw [hfs b z]; exact (fun y => nomatch y)
  · obtain ⟨rfl, rfl⟩ := noD i w z
    rfl
  · rw [hfs b z]; exact (fun y => nomatch y)
  · obtain ⟨_, z⟩ := noD i _ z
    cases z
  · subst hx
    cases dd
    refine q H' fun b o hb => ?_
    by_cases f : d = some b
    · rw [hfs b f] at hb
      cases hb
      exact at_ b f
    · exact e b o hb f
theorem dS_at {d : Option Addr} {fs : List (Str × V)} : ∀ s H, (dS d fs).At s H → ∀ dd, d = some dd → ∃ fs, H dd = some (.xd fs) := fun s H h dd e => ⟨fs, h dd e⟩
end J

namespace J
open PySem L2
/-! ### try: .. except X as n: .. -/
def ExH (k : Option Int) (dd : Option Addr) (H : Hp) : Prop := match k with
  | none => dd = none
  | some n => ∃ d, dd = some d ∧ H d = some (.xd [("place", .int n)])
theorem ExH.at_ {k : Option Int} {dd : Option Addr} {H : Hp} (h : ExH k dd H) : ∀ d, dd = some d → ∃ fs, H d = some (.xd fs) := fun d e => by
  cases k with
  | none => rw [show dd = none from h] at e; cases e
  | some n =>
    obtain ⟨d', h1, h2⟩ := h
    rw [h1] at e
    cases e
    exact ⟨_, h2⟩
theorem ExH.loc {k : Option Int} {dd : Option Addr} {H H' : Hp} (h : ExH k dd H) (e : ∀ a o, dd = some a → H a = some o → H' a = some o) : ExH k dd H' := by
  cases k with
  | none => exact h
  | some n =>
    obtain ⟨d', h1, h2⟩ := h
    exact ⟨d', h1, e d' _ h1 h2⟩
/-- the store while an exception is in hand -/
@[reducible] def exS (T : Sto) (k : Option Int) (dd : Option Addr) : Sto := ⟨T.S, fun a => T.F a ∨ dd = some a, fun s H => T.At s H ∧ ExH k dd H, fun s H H' e h => ⟨T.loc s H H' (fun a o f => e a o (.inl f)) h.1, h.2.loc fun a o f => e a o (.inr f)⟩, fun s H a h f => by
  rcases f with f | f
  · exact T.dom s H a h.1 f
  · obtain ⟨fs, e⟩ := h.2.at_ a f
    rw [e]; exact (fun z => nomatch z), T.E, T.Z⟩
def noOwnW : Option W → Option W
  | some (.own _) => none
  | w => w
def noOwn (ρ : DEnv) : DEnv := ρ.map noOwnW
theorem noOwn_get {ρ : DEnv} {j : Nat} {w : W} (h : (noOwn ρ)[j]? = some (some w)) : ρ[j]? = some (some w) ∧ ∀ xs, w ≠ .own xs := by
  unfold noOwn at h
  rw [List.getElem?_map] at h
  cases e : ρ[j]? with
  | none => rw [e] at h; cases h
  | some u =>
    rw [e] at h
    cases u with
    | none => cases h
    | some u =>
      cases u with
      | d x => cases h; exact ⟨rfl, fun _ z => nomatch z⟩
      | v x => cases h; exact ⟨rfl, fun _ z => nomatch z⟩
      | own xs => cases h
section
variable {T : Sto} {A0 : Addr → Prop} {H0 : Hp} {B : Addr → Prop} {σ : L2.St} {H : Hp} {s : T.S} {ρ : DEnv}
theorem Cxt.none0 (c : Cxt T A0 H0 B σ H s ρ) {p : Addr} (nf : ¬ T.F p) (h : H p = none) : H0 p = none := by
  cases q : H0 p with
  | none => rfl
  | some o => rw [c.fr p o q nf] at h; cases h
theorem Cxt.noOwn (c : Cxt T A0 H0 B σ H s ρ) : Cxt T A0 H0 B σ H s (J.noOwn ρ) := by
  refine ⟨c.fb, c.dm, c.at_, by unfold J.noOwn; rw [List.length_map]; exact c.ln, fun j w q => c.sl j w (noOwn_get q).1, c.fr, c.ab, c.d0, c.ba, fun i j xs ys p q => absurd rfl ((noOwn_get q).2 xs), c.ex⟩
theorem Cxt.toTry (c : Cxt T A0 H0 B σ H s ρ) {E : XK} {Z : Addr → Option Int → T.S → Prop} (ex : ∀ (C : Addr) (k : Option Int) (s' : T.S) (H' : Hp) (dd : Option Addr), Z C k s' → Fr T.F H H' → T.At s' H' → ExD T.F k dd H H' → E (.ref C) dd H') : Cxt (T.X E Z) B H B σ H s (J.noOwn ρ) := by
  refine ⟨c.fb, c.dm, c.at_, by unfold J.noOwn; rw [List.length_map]; exact c.ln, fun j w q => ?_, Fr.refl, fun a z => z, c.dm, fun a z => .inl z, fun i j xs ys p q => absurd rfl ((noOwn_get q).2 xs), ex⟩
  obtain ⟨h1, h2⟩ := noOwn_get q
  have z := c.sl j w h1
  cases w with
  | d x => exact z
  | v x => exact z
  | own xs => exact absurd rfl (h2 xs)
theorem Cxt.ofTry {E : XK} {Z : Addr → Option Int → T.S → Prop} {B' : Addr → Prop} {σ' : L2.St} {H' : Hp} {s' : T.S} {ρ' : DEnv} (c : Cxt T A0 H0 B σ H s ρ) (c' : Cxt (T.X E Z) B H B' σ' H' s' ρ') : Cxt T A0 H0 B' σ' H' s' ρ' := by
  refine ⟨c'.fb, c'.dm, c'.at_, c'.ln, fun j w q => ?_, c.fr.trans c'.fr, fun a z => c'.ab a (c.ab a z), c.d0, fun a z => ?_, c'.ow, c.ex⟩
  · have z := c'.sl j w q
    cases w with
    | d x => exact z
    | v x => exact z
    | own xs =>
      obtain ⟨p, vs, h1, h2, h3, h5, h6, h7⟩ := z
      exact ⟨p, vs, h1, h2, h3, c.none0 h3 h5, h6, h7⟩
  · rcases c'.ba a z with y | y | y
    · exact c.ba a y
    · exact .inr (.inl y)
    · by_cases f : T.F a
      · exact .inr (.inl f)
      · exact .inr (.inr (c.none0 f y))
theorem ExD.new {F : Addr → Prop} {k : Option Int} {dd : Option Addr} {H0 H : Hp} (x : ExD F k dd H0 H) : (∀ b, dd = some b → H0 b = none) ∧ ExH k dd H := by
  cases k with
  | none => exact ⟨fun b z => (by rw [show dd = none from x] at z; cases z), x⟩
  | some n =>
    obtain ⟨d, h1, h2, h3, h4⟩ := x
    exact ⟨fun b z => (by rw [h1] at z; cases z; exact h2), d, h1, h4⟩
theorem Cxt.toSuite (c : Cxt T A0 H0 B σ H s ρ) {H' : Hp} {s' : T.S} {k : Option Int} {dd : Option Addr} (e : Fr T.F H H') (at' : T.At s' H') (x : ExD T.F k dd H H') : Cxt (exS T k dd) A0 H0 (fun b => B b ∨ dd = some b) σ H' s' (J.noOwn ρ) := by
  obtain ⟨n1, n2⟩ := x.new
  obtain ⟨m1, _⟩ := (x.up c.fr).new
  have c1 := c.noOwn.step e at'
  have sm : Same (cut B H) (cut (fun b => B b ∨ dd = some b) H') := fun b o q => by
    obtain ⟨q1, q2⟩ := cut_get q
    exact cut_of (e b o q1 fun z => q2 (c.fb b z)) fun z => z.elim q2 fun z => by rw [n1 b z] at q1; cases q1
  refine ⟨fun a z => z.elim (fun z => .inl (c.fb a z)) .inr, fun a z => ?_, ⟨at', n2⟩, c1.ln, fun j w q => ?_, (c.fr.trans e).mono fun a z => .inl z, fun a z => .inl (c.ab a z), c.d0, fun a z => ?_, fun i j xs ys p q => absurd rfl ((noOwn_get q).2 xs), fun C k' s2 H2 d2 hz e2 a2 x2 => c.ex C k' s2 H2 d2 hz (fun b o q n => e2 b o q fun z => z.elim n fun z => by rw [m1 b z] at q; cases q) a2.1 (x2.mono fun a z => .inl z)⟩
  · rcases z with z | z
    · exact c1.dm a z
    · obtain ⟨fs, y⟩ := n2.at_ a z
      rw [y]; exact (fun z => nomatch z)
  · obtain ⟨h1, h2⟩ := noOwn_get q
    have z := c.sl j w h1
    cases w with
    | d y => obtain ⟨v, z1, z2⟩ := z; exact ⟨v, z1, DD.mono sm _ _ z2⟩
    | v y => exact z
    | own xs => exact absurd rfl (h2 xs)
  · rcases z with z | z
    · rcases c.ba a z with y | y | y
      · exact .inl y
      · exact .inr (.inl (.inl y))
      · exact .inr (.inr y)
    · exact .inr (.inl (.inr z))
theorem Cxt.ofSuite {k : Option Int} {dd : Option Addr} {B' : Addr → Prop} {σ' : L2.St} {H' : Hp} {s' : T.S} {ρ' : DEnv} (c : Cxt T A0 H0 B σ H s ρ) (h0 : ∀ b, dd = some b → H0 b = none) (c' : Cxt (exS T k dd) A0 H0 B' σ' H' s' ρ') : Cxt T A0 H0 B' σ' H' s' ρ' := by
  refine ⟨fun a z => c'.fb a (.inl z), c'.dm, c'.at_.1, c'.ln, fun j w q => ?_, fun b o q n => c'.fr b o q fun z => z.elim n fun z => (by rw [h0 b z] at q; cases q), c'.ab, c'.d0, fun a z => ?_, c'.ow, c.ex⟩
  · have z := c'.sl j w q
    cases w with
    | d x => exact z
    | v x => exact z
    | own xs =>
      obtain ⟨p, vs, h1, h2, h3, h5, h6, h7⟩ := z
      exact ⟨p, vs, h1, h2, fun y => h3 (.inl y), h5, h6, h7⟩
  · rcases c'.ba a z with y | y | y
    · exact .inl y
    · rcases y with y | y
      · exact .inr (.inl y)
      · exact .inr (.inr (h0 a y))
    · exact .inr (.inr y)
end
section
variable {T : Sto} {s : T.S} {ρ : DEnv} {R : PyData → T.S → Prop} {N : DEnv → T.S → Prop} {K : PySem.W.Frag} {cv : Value} {i : Nat} {tb : WX → TS} {tb0 : XK → TS} {ts : Addr → Value → Option Addr → TS}
def tTryAs (K : PySem.W.Frag) (cv : Value) (i : Nat) (tb : WX → TS) (ts : Addr → Value → Option Addr → TS) : TS := fun D σ H => tb (wAs K cv i ts (fun _ _ _ _ => False) D) D σ H
def tTryOnly (K : PySem.W.Frag) (cv : Value) (tb : WX → TS) (ts : Addr → Value → Option Addr → TS) : TS := fun D σ H => tb (wOnly K cv ts (fun _ _ _ _ => False) D) D σ H
theorem ws_tryAs (tb0 : XK → TS) (Z : Addr → Option Int → T.S → Prop) (hr : ∀ W D σ H, tb W D σ H = tb0 (L2.WE W σ) D σ H) (hb : ∀ E, WS (T.X E Z) (tb0 E) s (noOwn ρ) R N)
    (hs : ∀ C k s', Z C k s' → PySem.W.exmOne K (.ref C) cv = some true ∧ ∀ a dd, WS (exS T k dd) (ts a (.ref C) dd) s' ((noOwn ρ).set i (some (.v (.ref a)))) R (fun ρ' s' => N (ρ'.set i none) s')) : WS T (tTryAs K cv i tb ts) s ρ R N := fun A0 H0 B σ H c D r n => by
  show tb _ D σ H
  rw [hr]
  refine hb _ B H B σ H (c.toTry fun C k s' H' dd hz e at' x => ?_) D (fun v H' y s' hy e at' d => r v H' y s' hy (c.fr.trans e) at' (DD.mono (cut_mono c.ab) _ _ d)) (fun B' σ' H' s' ρ' hn c' => n B' σ' H' s' ρ' hn (c.ofTry c'))
  obtain ⟨hm, hsu⟩ := hs C k s' hz
  obtain ⟨m1, _⟩ := (x.up c.fr).new
  refine ⟨true, hm, fun _ a ha => ?_, fun z => nomatch z⟩
  exact hsu a dd A0 H0 _ _ H' ((c.toSuite e at' x).set (i := i) (w := .v (.ref a)) rfl fun _ z => nomatch z) _ (fun v H'' y s'' hy e2 a2 d2 => r v H'' y s'' hy (fun b o q nf => e2 b o q fun z => z.elim nf fun z => by rw [m1 b z] at q; cases q) a2.1 d2)
    (fun B' σ' H'' s'' ρ' hn c' => n B' _ H'' s'' _ hn ((c.ofSuite m1 c').unset i))
theorem ws_tryOnly (tb0 : XK → TS) (Z : Addr → Option Int → T.S → Prop) (hr : ∀ W D σ H, tb W D σ H = tb0 (L2.WE W σ) D σ H) (hb : ∀ E, WS (T.X E Z) (tb0 E) s (noOwn ρ) R N)
    (hs : ∀ C k s', Z C k s' → PySem.W.exmOne K (.ref C) cv = some true ∧ ∀ a dd, WS (exS T k dd) (ts a (.ref C) dd) s' (noOwn ρ) R N) : WS T (tTryOnly K cv tb ts) s ρ R N := fun A0 H0 B σ H c D r n => by
  show tb _ D σ H
  rw [hr]
  refine hb _ B H B σ H (c.toTry fun C k s' H' dd hz e at' x => ?_) D (fun v H' y s' hy e at' d => r v H' y s' hy (c.fr.trans e) at' (DD.mono (cut_mono c.ab) _ _ d)) (fun B' σ' H' s' ρ' hn c' => n B' σ' H' s' ρ' hn (c.ofTry c'))
  obtain ⟨hm, hsu⟩ := hs C k s' hz
  obtain ⟨m1, _⟩ := (x.up c.fr).new
  refine ⟨true, hm, fun _ a ha => ?_, fun z => nomatch z⟩
  exact hsu a dd A0 H0 _ _ H' (c.toSuite e at' x) _ (fun v H'' y s'' hy e2 a2 d2 => r v H'' y s'' hy (fun b o q nf => e2 b o q fun z => z.elim nf fun z => by rw [m1 b z] at q; cases q) a2.1 d2)
    (fun B' σ' H'' s'' ρ' hn c' => n B' _ H'' s'' _ hn (c.ofSuite m1 c'))
end
section
variable {X : Cx} {x n : Str} {c : Value} {i : Nat} {body suite : List Stmt} {b₀ : Stmt} {np pos pos' : Pos} {tb : WX → TS} {ts : Addr → Value → Option Addr → TS}
theorem ps_tryAs (hs : X.stack = X.env :: X.outer) (hf : X.env.frame = some X.env.locals) (hN : X.N.Nodup) (hi : X.N[i]? = some n) (hln : X.env.kindOf n = some .local) (hc : Names X x c)
    (hb : ∀ (W : WX) (pn : List (Addr × Obj)) (xe : Value → Shared → Prop), Takes (X.tr pn xe) W → PassesOwn (model X.prog X.w) X.A X.env xe → PSs (X.tr pn xe) body (tb W))
    (hsu : ∀ (a : Addr) (oe : Obj) (cls : Value) (d : Option Addr) (pn : List (Addr × Obj)), Zc cls d oe → (∃ vs, oe.data = .fields vs) → PSs (X.suite a ((a, oe) :: pn)) (b₀ :: suite) (ts a cls d)) :
    PS X (.Try body [.ExceptHandler (some (.Name x np)) (some n) (b₀ :: suite) pos'] [] [] pos) (tTryAs X.K c i tb ts) := ps_try_as hs hf hN hi hln hc takes0 hb hsu
theorem ps_tryOnly (hs : X.stack = X.env :: X.outer) (hf : X.env.frame = some X.env.locals) (hc : Names X x c)
    (hb : ∀ (W : WX) (pn : List (Addr × Obj)) (xe : Value → Shared → Prop), Takes (X.tr pn xe) W → PassesOwn (model X.prog X.w) X.A X.env xe → PSs (X.tr pn xe) body (tb W))
    (hsu : ∀ (a : Addr) (oe : Obj) (cls : Value) (d : Option Addr) (pn : List (Addr × Obj)), Zc cls d oe → (∃ vs, oe.data = .fields vs) → PSs (X.suite a ((a, oe) :: pn)) (b₀ :: suite) (ts a cls d)) :
    PS X (.Try body [.ExceptHandler (some (.Name x np)) none (b₀ :: suite) pos'] [] [] pos) (tTryOnly X.K c tb ts) := ps_try_only hs hf hc takes0 hb hsu
end
section
variable {T : Sto} {s : T.S} {ρ : DEnv} {Φ : PyData → T.S → Prop} {K : PySem.W.Frag} {i : Nat} {a C : Addr} {dd : Option Addr} {k : Option Int} {n : Int}
theorem wp_callE {nm : Addr → Str} {ok : Addr → Prop} (hi : ρ[i]? = some (some (.v (.ref a)))) (hok : ok C) (q : Φ (.str (nm C)) s) : WE (exS T k dd) (tCallE a (.ref C) dd (spCls nm ok) (tCons (tVar i) tNil)) s ρ Φ := fun A0 H0 B σ H c Q kk =>
  ⟨_, join_some (c.sl i _ hi), C, rfl, rfl, hok, c.at_.2.at_, fun H' e => kk _ H' _ s q (Fr.of e) ((exS T k dd).loc s H H' (fun a o _ q => e a o q) c.at_) (.str _)⟩
theorem wp_xf (hi : ρ[i]? = some (some (.v (.ref a)))) (q : Φ (.int n) s) : WE (exS T (some n) dd) (tXf a (.ref C) dd C "place" (tVar i)) s ρ Φ := fun A0 H0 B σ H c Q kk => by
  obtain ⟨d, h1, h2⟩ := c.at_.2
  exact ⟨_, join_some (c.sl i _ hi), rfl, rfl, d, [("place", .int n)], .int n, h1, h2, by simp [List.lookup], kk _ H _ s q Fr.refl c.at_ (.int n)⟩
end

def clsB : Stmt → List Stmt
  | .ClassDef (body := b) .. => b
  | _ => []
theorem hu64H {k : Nat} {A : Around} (r : L2H.RoomH k A) : A.units + 64 < cLine := by have := r.un; omega
/-! ### a change that looks at another slot -/
def MutOkJ (tm : TS) (i : Nat) (x : PyData) (j : Nat) (u : V) : Prop := ∀ (G : Hp) (v : V) (σ : L2.St) (H : Hp) (D : Ends), σ[i]? = some (some v) → σ[j]? = some (some u) → DD G v x → (∀ a o, G a = some o → H a = some o) → D.nx σ H → (∀ p ys zs, G p = some (.lst ys) → D.nx σ (upd H p (.lst zs))) → tm D σ H
theorem MutOk.J {tm : TS} {i : Nat} {x : PyData} {j : Nat} {u : V} (h : MutOk tm i x) : MutOkJ tm i x j u := fun G v σ H D h1 _ d e n k => h G v σ H D h1 d e n k
/-- the value of a slot that holds no list, no tuple -/
inductive Sc : PyData → V → Prop
  | non : Sc .none .non
  | bl (b : Bool) : Sc (.bool b) (.bl b)
  | int (i : Int) : Sc (.int i) (.int i)
  | str (x : Str) : Sc (.str x) (.str x)
theorem Sc.eq {H : Hp} {x : PyData} {v u : V} (h : Sc x u) (d : DD H v x) : v = u := by
  cases h <;> (cases d; rfl)
section
variable {T : Sto} {s : T.S} {ρ : DEnv} {R : PyData → T.S → Prop} {N : DEnv → T.S → Prop} {ta : TA} {te : TE} {tt : TT} {tm u : TS} {P : Pre} {E : XK} {i j : Nat} {xj : PyData} {vj : V}
theorem ws_mutJ (hi : i < ρ.length) (ij : i ≠ j) (hj : ρ[j]? = some (some (.d xj))) (hsc : Sc xj vj) (h : WA T ta s ρ fun xs s1 => noLs xs = true ∧ P xs fun x => MutOkJ tm i x j vj ∧ WT T tt s1 (ρ.set i (some (.d x))) fun b s2 => if b = true then WE T te s2 (frz (ρ.set i (some (.d x)))) R else ∀ w, N (ρ.set i (some (.v w))) s2) :
    WS T (tSeq (tAsg (tCall (spD P) [] E ta) (gName i)) (tSeq (tIfS tt (tRet te) tNext) tm)) s ρ R N := fun A0 H0 B σ H c D r n =>
  h A0 H0 B σ H c _ fun vs H1 xs s1 ⟨nl, h1⟩ e1 a1 d1 => by
    have c1 := c.step e1 a1
    have hju : σ[j]? = some (some vj) := by
      obtain ⟨v, z1, z2⟩ := c.sl j _ hj
      rw [join_some z1, hsc.eq z2]
    refine ⟨NewA B H1, xs, _, fun a z => ?_, by rw [List.append_nil]; exact DDs.noL _ _ nl d1, h1, fun v H2 x ⟨hm, ht⟩ e2 d2 => ?_⟩
    · rcases z with z | ⟨_, z⟩
      · exact c1.dm a z
      · rw [z]; exact fun z => nomatch z
    · have cN := (c1.fresh e2).set (i := i) (w := .v v) rfl fun _ z => nomatch z
      have cD := (c1.grow e2).setD (i := i) (DD.mono (cut_mono fun a z => .inl z) _ _ d2)
      have hv : (σ.set i (some v))[i]? = some (some v) := by rw [List.getElem?_set, if_pos rfl, if_pos (by rw [c.ln]; exact hi)]
      have hv2 : (σ.set i (some v))[j]? = some (some vj) := by rw [List.getElem?_set, if_neg ij]; exact hju
      refine ht A0 H0 B _ H2 cD _ fun b H3 s2 hb e3 a3 => ?_
      cases b with
      | true =>
        have hb : WE T te s2 (frz (ρ.set i (some (.d x)))) R := hb
        exact hb A0 H0 _ _ H3 (cD.step e3 a3).frz _ fun v H' x s' f e a d => r v H' x s' f ((cD.step e3 a3).fr.trans e) a (DD.mono (cut_mono fun _ z => .inl z) _ _ d)
      | false =>
        have hb : ∀ w, N (ρ.set i (some (.v w))) s2 := hb
        have c3 := cN.step e3 a3
        have G3 : ∀ a o, cut (NewA B H1) H2 a = some o → H3 a = some o := fun a o q => by
          obtain ⟨q1, q2⟩ := cut_get q
          exact e3 a o q1 fun z => q2 (.inl (c.fb a z))
        refine hm _ v _ H3 _ hv hv2 d2 G3 (n _ _ _ _ _ (hb v) c3) fun p ys zs hp => ?_
        obtain ⟨g1, g2, g3, g4, g5, g6⟩ := c1.newL e2 hp
        exact n _ _ _ _ _ (hb v) (c3.mut (.inr ⟨g1, ys, g2⟩) g4 g5 (own_set hi g6) (G3 p _ hp))
/-- if n is None: x is changed -/
theorem mut_isN {x : PyData} {b : Bool} (hb : vj = .non → MutOk tm i x) : MutOkJ (tIfS (tTest (tOp rIsN (tVar j) (tC .non))) tm tNext) i x j vj := fun G v σ H D hv hj d e n k => by
  refine ⟨vj, hj, rfl, _, rfl, ?_⟩
  by_cases z : vj = .non
  · rw [decide_eq_true z]
    exact hb z G v σ H D hv d e n k
  · rw [decide_eq_false z]
    exact n
end
def rPowI : R2 := rI CPow fun i j => .int (i ^ j.toNat)
theorem op_powU {X : Cx} : OpR X (binaryOp .Pow) rPowI := op_pow
theorem rd_pow {i j : Int} {Φ : PyData → Prop} (h : 0 ≤ j ∧ j ≤ 1000000 ∧ i.natAbs < 2 ^ 64) (q : Φ (.int (i ^ j.toNat))) : RD rPowI (.int i) (.int j) Φ := fun B H v w Q dm d1 d2 k => by
  cases d1; cases d2
  exact ⟨i, j, rfl, rfl, h, k _ H _ q (Same.refl H) (.int _)⟩
end J

namespace J
open PySem L2
/-! ### rows of any kind -/
/-- a row: a word and numbers, or nothing -/
def GRow (d : PyData) : Prop := d = .tuple [] ∨ ∃ (w : Str) (ns : List Int), PyData.strOk w = true ∧ d = .tuple (.str w :: ns.map .int) ∧ ns.length ≤ 3
def lookOk (n k : Nat) : PyData → Bool
  | .tuple [.str w, .int a, .int b, .int c] => w == wLook && (decide (0 ≤ a) && decide (a < 8)) && (decide (b = 0) || decide (b = 1)) && (decide ((k : Int) < c) && decide (c < (n : Int)))
  | _ => false
def endOk : PyData → Bool
  | .tuple [.str w, .int a] => w == wEnd && (decide (a = 0) || decide (a = 1))
  | _ => false
def secD : PyData → Int
  | .tuple (_ :: .int a :: _) => a
  | _ => 0
def lastOk (p : PyData) : PyData → Bool
  | .tuple [.str w, .int a] => w == wEnd && decide (a = 1 - secD p)
  | _ => false
def atD (ds : List PyData) (k : Nat) : PyData := ds.getD k .none
/-- whether the row at k may stand there -/
def goodAt (ds : List PyData) (k : Nat) : Bool := decide (k < 40) && (if k + 2 = ds.length then endOk (atD ds k) else if k + 1 = ds.length ∧ 0 < k then lastOk (atD ds (k - 1)) (atD ds k) else lookOk ds.length k (atD ds k))
def badFrom (ds : List PyData) : Option Nat := (List.range ds.length).find? fun k => !goodAt ds k
def badAt (ds : List PyData) : Option Nat := if ds = [] then some 0 else badFrom ds
theorem atD_get {ds : List PyData} {k : Nat} (h : k < ds.length) : ds[k]? = some (atD ds k) ∧ atD ds k ∈ ds := by
  have e : ds[k]? = some ds[k] := List.getElem?_eq_getElem h
  have e2 : atD ds k = ds[k] := by unfold atD; rw [List.getD_eq_getElem?_getD, e]; rfl
  rw [e2]
  exact ⟨e, List.getElem_mem h⟩
theorem badFrom_some {ds : List PyData} {k : Nat} (hk : k < ds.length) (h : ∀ j, j < k → goodAt ds j = true) (hn : goodAt ds k = false) : badFrom ds = some k := by
  unfold badFrom
  rw [List.find?_range_eq_some]
  exact ⟨by rw [hn]; rfl, List.mem_range.mpr hk, fun j hj => by rw [h j hj]; rfl⟩
theorem badFrom_none {ds : List PyData} (h : ∀ j, j < ds.length → goodAt ds j = true) : badFrom ds = none := by
  unfold badFrom
  rw [List.find?_eq_none]
  intro j hj
  rw [h j (List.mem_range.mp hj)]
  decide
theorem badAt_ne {ds : List PyData} (h : ds ≠ []) : badAt ds = badFrom ds := if_neg h
theorem all_good {ds : List PyData} (h : badFrom ds = none) : ∀ j, j < ds.length → goodAt ds j = true := fun j hj => by
  unfold badFrom at h
  rw [List.find?_eq_none] at h
  have := h j (List.mem_range.mpr hj)
  simpa using this
theorem lookOk_is {n k : Nat} {d : PyData} (h : lookOk n k d = true) : ∃ r : Row, d = r.D ∧ (0 ≤ r.thing ∧ r.thing < 8) ∧ (r.when_ = 0 ∨ r.when_ = 1) ∧ (k : Int) < r.to ∧ r.to < n := by
  unfold lookOk at h
  split at h
  · rename_i w a b c
    simp only [Bool.and_eq_true, Bool.or_eq_true, decide_eq_true_eq, beq_iff_eq] at h
    obtain ⟨⟨⟨h1, h2⟩, h3⟩, h4⟩ := h
    subst h1
    exact ⟨⟨a, b, c⟩, rfl, h2, h3, h4.1, h4.2⟩
  · cases h
theorem endOk_is {d : PyData} (h : endOk d = true) : ∃ f, d = endD f ∧ (f = 0 ∨ f = 1) := by
  unfold endOk at h
  split at h
  · rename_i w a
    simp only [Bool.and_eq_true, Bool.or_eq_true, decide_eq_true_eq, beq_iff_eq] at h
    obtain ⟨h1, h2⟩ := h
    subst h1
    exact ⟨a, rfl, h2⟩
  · cases h
theorem lastOk_is {p d : PyData} (h : lastOk p d = true) : d = endD (1 - secD p) := by
  unfold lastOk at h
  split at h
  · rename_i w a
    simp only [Bool.and_eq_true, decide_eq_true_eq, beq_iff_eq] at h
    obtain ⟨h1, h2⟩ := h
    subst h1 h2
    rfl
  · cases h
/-- a list of rows that can all be is a code -/
theorem code_of_good {ds : List PyData} (h : badAt ds = none) : ∃ R f, ds = codeD R f ∧ Code R f := by
  have hne : ds ≠ [] := fun z => by rw [z] at h; cases h
  rw [badAt_ne hne] at h
  have hg := all_good h
  have hlen : 0 < ds.length := List.length_pos_iff.mpr hne
  have h1 : ds.length ≠ 1 := fun e => by
    have g := hg 0 (by omega)
    unfold goodAt at g
    rw [if_neg (by omega), if_neg (by omega)] at g
    have g2 : lookOk ds.length 0 (atD ds 0) = true := (Bool.and_eq_true_iff.mp g).2
    obtain ⟨r, _, _, _, h3, h4⟩ := lookOk_is g2
    omega
  obtain ⟨m, hm⟩ : ∃ m, ds.length = m + 2 := ⟨ds.length - 2, by omega⟩
  have gl : ∀ k, k < m → ∃ r : Row, atD ds k = r.D ∧ (0 ≤ r.thing ∧ r.thing < 8) ∧ (r.when_ = 0 ∨ r.when_ = 1) ∧ (k : Int) < r.to ∧ r.to < (ds.length : Nat) := fun k hk => by
    have g := hg k (by omega)
    unfold goodAt at g
    rw [if_neg (by omega), if_neg (by omega)] at g
    exact lookOk_is (Bool.and_eq_true_iff.mp g).2
  have ge := hg m (by omega)
  unfold goodAt at ge
  rw [if_pos (by omega)] at ge
  obtain ⟨f, ef, bf⟩ := endOk_is (Bool.and_eq_true_iff.mp ge).2
  have gz := hg (m + 1) (by omega)
  unfold goodAt at gz
  rw [if_neg (by omega), if_pos (by omega)] at gz
  have h40 : m + 1 < 40 := of_decide_eq_true (Bool.and_eq_true_iff.mp gz).1
  have ez := lastOk_is (Bool.and_eq_true_iff.mp gz).2
  rw [Nat.add_sub_cancel, ef] at ez
  have pick : ∃ R : List Row, R.length = m ∧ ∀ k, k < m → ∃ r, R[k]? = some r ∧ atD ds k = r.D ∧ RowOk m k r := by
    refine ⟨(List.range m).map fun k => if hk : k < m then (gl k hk).choose else ⟨0, 0, 0⟩, by simp, fun k hk => ?_⟩
    refine ⟨(gl k hk).choose, ?_, (gl k hk).choose_spec.1, (gl k hk).choose_spec.2.1, (gl k hk).choose_spec.2.2.1, (gl k hk).choose_spec.2.2.2.1, ?_⟩
    · rw [List.getElem?_map, List.getElem?_range hk]
      simp [hk]
    · have := (gl k hk).choose_spec.2.2.2.2
      omega
  obtain ⟨R, hR, hp⟩ := pick
  refine ⟨R, f, ?_, ⟨by omega, fun k r e => ?_, bf⟩⟩
  · apply List.ext_getElem?
    intro k
    unfold codeD
    by_cases hk : k < m
    · obtain ⟨r, e1, e2, _⟩ := hp k hk
      rw [(atD_get (ds := ds) (by omega)).1, e2, List.getElem?_append_left (by rw [List.length_map]; omega), List.getElem?_map, e1]
      rfl
    · rw [List.getElem?_append_right (by rw [List.length_map]; omega), List.length_map, hR]
      by_cases hk2 : k = m
      · subst hk2
        rw [(atD_get (ds := ds) (by omega)).1, ef, Nat.sub_self]
        rfl
      · by_cases hk3 : k = m + 1
        · subst hk3
          rw [(atD_get (ds := ds) (by omega)).1, ez, show m + 1 - m = 1 from by omega]
          rfl
        · rw [List.getElem?_eq_none (by omega), List.getElem?_eq_none (by show 2 ≤ _; omega)]
  · have hk := (List.getElem?_eq_some_iff.mp e).1
    obtain ⟨r', e1, _, e3⟩ := hp k (by omega)
    rw [e] at e1
    cases e1
    rw [hR]
    exact e3
theorem Row.grow (r : Row) : GRow r.D := .inr ⟨wLook, [r.thing, r.when_, r.to], so_l, rfl, Nat.le_refl _⟩
theorem endD_grow (f : Int) : GRow (endD f) := .inr ⟨wEnd, [f], so_e, rfl, Nat.le_of_ble_eq_true rfl⟩
theorem GRow.shape {d : PyData} (h : GRow d) : d = .tuple [] ∨ ∃ w : Str, PyData.strOk w = true ∧ (d = .tuple [.str w] ∨ (∃ a : Int, d = .tuple [.str w, .int a]) ∨ (∃ a b : Int, d = .tuple [.str w, .int a, .int b]) ∨ ∃ a b c : Int, d = .tuple [.str w, .int a, .int b, .int c]) := by
  rcases h with rfl | ⟨w, ns, hw, rfl, hl⟩
  · exact .inl rfl
  · refine .inr ⟨w, hw, ?_⟩
    match ns, hl with
    | [], _ => exact .inl rfl
    | [a], _ => exact .inr (.inl ⟨a, rfl⟩)
    | [a, b], _ => exact .inr (.inr (.inl ⟨a, b, rfl⟩))
    | [a, b, c], _ => exact .inr (.inr (.inr ⟨a, b, c, rfl⟩))
    | _ :: _ :: _ :: _ :: _, h => exact absurd h (by simp)
theorem GRow.nice {d : PyData} (h : GRow d) : J.nice d = true ∧ d.depth ≤ 2 := by
  rcases h with rfl | ⟨w, ns, hw, rfl, hl⟩
  · exact ⟨rfl, by simp [PyData.depth, PyData.depthAll]⟩
  · refine ⟨?_, ?_⟩
    · have : niceAll (ns.map PyData.int) = true := niceAll_of fun d m => by obtain ⟨i, _, rfl⟩ := List.mem_map.mp m; rfl
      simp [J.nice, niceAll, hw, this]
      omega
    · rw [depth_tuple]
      have : PyData.depthAll (.str w :: ns.map .int) ≤ 1 := depthAll_le fun d hd => by
        rcases List.mem_cons.mp hd with rfl | hd
        · simp [PyData.depth]
        · obtain ⟨i, _, rfl⟩ := List.mem_map.mp hd
          exact depth_int i
      omega
theorem rows_nice {ds : List PyData} (h : ∀ d ∈ ds, GRow d) (hl : ds.length ≤ 1000) : J.nice (.list ds) = true ∧ (PyData.list ds).depth ≤ 3 := by
  refine ⟨?_, ?_⟩
  · simp only [J.nice, Bool.and_eq_true, decide_eq_true_eq]
    exact ⟨by omega, niceAll_of fun d hd => (h d hd).nice.1⟩
  · rw [depth_list]
    have := depthAll_le (n := 2) fun d hd => (h d hd).nice.2
    omega
/-! ### a told thing is changed, a list was handed in -/
def NewP (B : Addr → Prop) (H : Hp) (p0 : Addr) : Addr → Prop := fun a => B a ∨ ((∃ ys, H a = some (.lst ys)) ∧ a ≠ p0)
theorem GRow.noL {d : PyData} (h : GRow d) : J.noL d = true := by
  rcases h with rfl | ⟨w, ns, _, rfl, _⟩
  · rfl
  · simp [J.noL, J.noLs, noLs_ints]
theorem noLs_of : ∀ {ds : List PyData}, (∀ d ∈ ds, J.noL d = true) → noLs ds = true
  | [], _ => rfl
  | d :: ds, h => by
    have h1 := h d List.mem_cons_self
    have h2 := noLs_of fun e he => h e (List.mem_cons_of_mem _ he)
    simp [J.noLs, h1, h2]
section
variable {T : Sto} {A0 : Addr → Prop} {H0 : Hp} {B : Addr → Prop} {σ : L2.St} {H H1 H2 : Hp} {s : T.S} {ρ : DEnv}
theorem Cxt.newLP (c : Cxt T A0 H0 B σ H1 s ρ) (e2 : Same H1 H2) {p p0 : Addr} {ys : List V} (h : cut (NewP B H1 p0) H2 p = some (.lst ys)) (ne : p ≠ p0) : H1 p = none ∧ H2 p = some (.lst ys) ∧ ¬ B p ∧ ¬ T.F p ∧ H0 p = none ∧
    ∀ (j : Nat) xs, ρ[j]? = some (some (.own xs)) → σ[j]? ≠ some (some (.ref p)) := by
  refine c.newL e2 ?_
  obtain ⟨q1, q2⟩ := cut_get h
  refine cut_of q1 fun z => q2 ?_
  rcases z with z | z
  · exact .inl z
  · exact .inr ⟨z, ne⟩
end
def MutOkL (tm : TS) (i : Nat) (x : PyData) (j : Nat) (u : V) (rs : List PyData) : Prop := ∀ (G : Hp) (v : V) (σ : L2.St) (H : Hp) (D : Ends) (p0 : Addr), σ[i]? = some (some v) → σ[j]? = some (some u) → DD G v x → DD G (.ref p0) (.list rs) → (∀ a o, G a = some o → H a = some o) → D.nx σ H → (∀ p ys zs, G p = some (.lst ys) → p ≠ p0 → D.nx σ (upd H p (.lst zs))) → tm D σ H
theorem mutL_append {K : PySem.W.Frag} {i j : Nat} {t n : Int} {u : V} {ds rs : List PyData} {l : List Int} (h : atI ds t = some (.list (l.map .int))) (hl : l.length < 100000) (hrs : ∃ d r, rs = .tuple d :: r) : MutOkL (tDrop (tBM K "list" rAppend (tOp (rIx K) (tVar i) (tC (.int t))) (tCons (tC (.int n)) tNil))) i (.tuple ds) j u rs := fun G v σ H D p0 hv _ d d0 e _ k => by
  cases d with
  | tup ha hs =>
    obtain ⟨w, h1, h2⟩ := hs.at_ h
    cases h2 with
    | @lst p us _ hp hu =>
      have ne : p ≠ p0 := fun z => by
        subst z
        obtain ⟨d, r, rfl⟩ := hrs
        cases d0 with
        | @lst _ us' _ hp' hu' =>
          rw [hp] at hp'
          cases hp'
          cases hu' with
          | cons g1 g2 =>
            cases l with
            | nil => cases hu
            | cons y l =>
              cases hu with
              | cons g3 g4 =>
                cases g3
                cases g1
      exact ⟨_, hv, .inr (.inl ⟨_, _, t, .ref p, rfl, rfl, SqT.of (e _ _ ha), h1, Or.inl ⟨rfl, _, SqL.of (e _ _ hp)⟩, ⟨p, us, _, rfl, rfl, e _ _ hp, Nat.lt_of_lt_of_le (by rw [hu.len, List.length_map]; exact hl) (by decide), k p us _ hp ne⟩⟩)⟩
/-- if n is None: x is changed -/
theorem mutL_isN {tm : TS} {x : PyData} {i j : Nat} {vj : V} {rs : List PyData} (hb : vj = .non → MutOkL tm i x j vj rs) : MutOkL (tIfS (tTest (tOp rIsN (tVar j) (tC .non))) tm tNext) i x j vj rs := fun G v σ H D p0 hv hj d d0 e n k => by
  refine ⟨vj, hj, rfl, _, rfl, ?_⟩
  by_cases z : vj = .non
  · rw [decide_eq_true z]
    exact hb z G v σ H D p0 hv hj d d0 e n k
  · rw [decide_eq_false z]
    exact n
section
variable {T : Sto} {s : T.S} {ρ : DEnv} {R : PyData → T.S → Prop} {N : DEnv → T.S → Prop} {ta : TA} {te : TE} {tt : TT} {tm u : TS} {P : Pre} {E : XK} {i j : Nat} {xj : PyData} {vj : V}
theorem ws_mutL (hi : i < ρ.length) (ij : i ≠ j) (hj : ρ[j]? = some (some (.d xj))) (hsc : Sc xj vj) (h : WA T ta s ρ fun xs s1 => ∃ rs w, xs = [.list rs, w] ∧ noLs rs = true ∧ noL w = true ∧ P xs fun x => MutOkL tm i x j vj rs ∧ WT T tt s1 (ρ.set i (some (.d x))) fun b s2 => if b = true then WE T te s2 (frz (ρ.set i (some (.d x)))) R else ∀ w, N (ρ.set i (some (.v w))) s2) :
    WS T (tSeq (tAsg (tCall (spD P) [] E ta) (gName i)) (tSeq (tIfS tt (tRet te) tNext) tm)) s ρ R N := fun A0 H0 B σ H c D r n =>
  h A0 H0 B σ H c _ fun vs H1 xs s1 ⟨rs, w, exs, nl, nw, h1⟩ e1 a1 d1 => by
    have c1 := c.step e1 a1
    have hju : σ[j]? = some (some vj) := by
      obtain ⟨v, z1, z2⟩ := c.sl j _ hj
      rw [join_some z1, hsc.eq z2]
    subst exs
    cases d1 with
    | @cons v0 vs0 _ _ dl dw =>
    cases dl with
    | @lst p0 us0 _ hp0 hus0 =>
    have sub : ∀ a, NewP B H1 p0 a → NewA B H1 a := fun a z => z.elim .inl fun z => .inr z.1
    have hp0B := cut_get hp0
    have dl' : DD (cut (NewP B H1 p0) H1) (.ref p0) (.list rs) := .lst (cut_of hp0B.1 fun z => z.elim hp0B.2 fun z => z.2 rfl) (DDs.mono (cut_mono sub) _ _ (DDs.noL _ _ nl hus0))
    have nw' : noLs [w] = true := by simp [J.noLs, nw]
    have dw' := DDs.mono (cut_mono sub) _ _ (DDs.noL _ _ nw' dw)
    refine ⟨NewP B H1 p0, [.list rs, w], _, fun a z => ?_, by rw [List.append_nil]; exact .cons dl' dw', h1, fun v H2 x ⟨hm, ht⟩ e2 d2 => ?_⟩
    · rcases z with z | ⟨⟨_, z⟩, _⟩
      · exact c1.dm a z
      · rw [z]; exact fun z => nomatch z
    · have cN := (c1.fresh e2).set (i := i) (w := .v v) rfl fun _ z => nomatch z
      have cD := (c1.grow e2).setD (i := i) (DD.mono (cut_mono fun a z => .inl z) _ _ d2)
      have hv : (σ.set i (some v))[i]? = some (some v) := by rw [List.getElem?_set, if_pos rfl, if_pos (by rw [c.ln]; exact hi)]
      have hv2 : (σ.set i (some v))[j]? = some (some vj) := by rw [List.getElem?_set, if_neg ij]; exact hju
      refine ht A0 H0 B _ H2 cD _ fun b H3 s2 hb e3 a3 => ?_
      cases b with
      | true =>
        have hb : WE T te s2 (frz (ρ.set i (some (.d x)))) R := hb
        exact hb A0 H0 _ _ H3 (cD.step e3 a3).frz _ fun v H' x s' f e a d => r v H' x s' f ((cD.step e3 a3).fr.trans e) a (DD.mono (cut_mono fun _ z => .inl z) _ _ d)
      | false =>
        have hb : ∀ w, N (ρ.set i (some (.v w))) s2 := hb
        have c3 := cN.step e3 a3
        have G3 : ∀ a o, cut (NewP B H1 p0) H2 a = some o → H3 a = some o := fun a o q => by
          obtain ⟨q1, q2⟩ := cut_get q
          exact e3 a o q1 fun z => q2 (.inl (c.fb a z))
        have dl2 : DD (cut (NewP B H1 p0) H2) (.ref p0) (.list rs) := DD.mono (fun a o q => by
          obtain ⟨q1, q2⟩ := cut_get q
          exact cut_of (e2 a o q1) q2) _ _ dl'
        refine hm _ v _ H3 _ p0 hv hv2 d2 dl2 G3 (n _ _ _ _ _ (hb v) c3) fun p ys zs hp ne => ?_
        obtain ⟨g1, g2, g3, g4, g5, g6⟩ := c1.newLP e2 hp ne
        exact n _ _ _ _ _ (hb v) (c3.mut (.inr ⟨g1, ys, g2⟩) g4 g5 (own_set hi g6) (G3 p _ hp))
end
end J

namespace J
open PySem L2 PyProof.Rows
/-! ### texts -/
def tx (l : List Nat) : Str := ⟨l.toArray⟩
theorem tx_len (l : List Nat) : (tx l).length = l.length := by simp [tx, Str.length]
theorem tx_app (a b : List Nat) : tx a ++ tx b = tx (a ++ b) := by
  show Str.mk (a.toArray ++ b.toArray) = Str.mk (a ++ b).toArray
  simp
theorem tx_of (z : Str) : z = tx z.cps.toList := by cases z; rfl
theorem tx_inj {a b : List Nat} (h : tx a = tx b) : a = b := by
  have : a.toArray = b.toArray := by injection h
  simpa using this
theorem tx_ok (l : List Nat) : PyData.strOk (tx l) = l.all (· < 0x110000) := by simp [tx, PyData.strOk]
theorem tx_cps (l : List Nat) : (tx l).cps.toList = l := rfl
section
variable {K : PySem.W.Frag} {Φ : PyData → Prop}
theorem rd_addX {a b : List Nat} (h : a.length + b.length ≤ 100000) (q : Φ (.str (tx (a ++ b)))) : RD (rAddU K) (.str (tx a)) (.str (tx b)) Φ := rd_addS (by rw [tx_len, tx_len]; exact h) (by rw [tx_app]; exact q)
theorem rd_inS {c : Nat} {z : Str} (q : Φ (.bool (decide (c ∈ z.cps.toList)))) : RD (rInU K) (.str (tx [c])) (.str z) Φ := fun B H v w Q dm d1 d2 k => by
  cases d1; cases d2
  refine .inr ⟨tx [c], z, rfl, rfl, ?_⟩
  rw [show (!(Builtin.Str.occurrences z (tx [c]) 0 z.length 1).isEmpty) = decide (c ∈ z.cps.toList) from StrLaws.found_one z c]
  exact k _ H _ q (Same.refl H) (.bl _)
end
/-! ### enumerate(a text) -/
/-- the text's signs, each in a new pair -/
def Ites (x : Str) : It := ⟨fun i _ => i < x.cps.size, fun i H v H' => ∃ T c, v = .ref T ∧ H T = none ∧ H' = upd H T (.tup [.int (i : Nat), .str ⟨#[c]⟩]) ∧ x.cps[i]? = some c, fun i _ => i = x.cps.size⟩
theorem turn_enumS {P : Program} {w : World} {K : PySem.W.Frag} {elts : List Expr} {kk : Nat} {tpos : Pos} (x : Str) (t : Tok) (e it : Addr) :
    Turn P w K (.Tuple elts kk tpos) (Ites x) [e, it] e (fun i h => (∃ old, IsEnum h e it ((i : Nat) : Int) old) ∧ h.IsStrIter it (strIterType x) x t i ∧ e ≠ it) where
  mem := by simp
  obj := fun i h st b hb => by
    obtain ⟨⟨old, he⟩, ⟨o, ho, hc, hd⟩, _⟩ := st
    have e' : b = e ∨ b = it := by simpa using hb
    rcases e' with z | z
    · rw [z]; exact ⟨_, he, fun v q => nomatch q⟩
    · rw [z]; exact ⟨o, ho, fun v q => by rw [hd] at q; cases q⟩
  keep := fun i h h' st k => let ⟨⟨old, he⟩, ⟨o, ho, r⟩, hne⟩ := st; ⟨⟨old, k e (by simp) _ he⟩, ⟨o, k it (by simp) o ho, r⟩, hne⟩
  item := by
    intro X hP hw hK hc i pins s σ H E I hf st hg
    subst hP hw hK
    obtain ⟨⟨old, he⟩, hit, hne⟩ := st
    have hel : e < s.heap.objs.size := Heap.lt_size he
    have hil : it < s.heap.objs.size := by obtain ⟨_, q, _⟩ := hit; exact Heap.lt_size q
    have D : Draws X.prog X.w X.A.in1 it [it] x.cps.size (fun i v => ∃ c u, x.cps[i]? = some c ∧ v = .str ⟨#[c]⟩ u) (fun i h => h.IsStrIter it (strIterType x) x t i) := by
      unfold strIterType
      split
      · exact Draws.strAscii (A := X.A.in1) (I.ok.hd hc) it x t
      · exact Draws.strWide (A := X.A.in1) (I.ok.hd hc) it x t
    refine wpAny_pyNext_enum_itemD D he hit hg hne (by simpa using hne) fun y h' tk hP ho hit' hT hsz hk => ?_
    obtain ⟨c, u, hx, rfl⟩ := hP
    refine ⟨_, rfl, wpAny_letOwnedTupleGo_enum (s := { s with heap := h', toks := tk + 1 }) ho fun h'' he' sb => ?_⟩
    have hT2 : h''.get? s.heap.objs.size = some { cls := .type "tuple", data := .seq #[.int i tk, .str ⟨#[c]⟩ u] } := (sb.2 _ (Nat.ne_of_gt hel)).trans hT
    have new : ObjOk X.prog X.w (upd H s.heap.objs.size (.tup [.int (i : Nat), .str ⟨#[c]⟩])) h'' s.heap.objs.size (.tup [.int (i : Nat), .str ⟨#[c]⟩]) :=
      ⟨by show 2 ≤ sizeLine; decide, [.int i tk, .str ⟨#[c]⟩ u], .cons ⟨_, rfl⟩ (.cons ⟨_, rfl⟩ .nil), ⟨_, hT2, rfl, _, rfl⟩⟩
    have I1 : Inv X pins σ (upd H s.heap.objs.size (.tup [.int (i : Nat), .str ⟨#[c]⟩])) { s with heap := h'', toks := tk + 1 } :=
      I.turnedNew (ch := [e, it]) (fun b ob hb q => (sb.2 b (fun z => hb (by simp [z]))).trans (hk b ob (fun z => hb (by simp [z])) (fun z => hb (by simp [z])) q)) hf (Nat.le_refl _) new
    refine ⟨.ref s.heap.objs.size, _, I1, rfl, ⟨_, c, rfl, I.hok.fresh (Nat.le_refl _), rfl, hx⟩, ⟨⟨.str ⟨#[c]⟩ u, ?_⟩, ?_, hne⟩, fun b hb => ?_⟩
    · have e1 : ((i + 1 : Nat) : Int) = (i : Int) + 1 := by omega
      rw [e1]; exact he'
    · obtain ⟨o, q1, q2⟩ := hit'
      exact ⟨o, (sb.2 it (Ne.symm hne)).trans q1, q2⟩
    · have hb' : b < s.heap.objs.size := by
        have e' : b = e ∨ b = it := by simpa using hb
        rcases e' with z | z
        · rw [z]; exact hel
        · rw [z]; exact hil
      rw [upd_ne (Nat.ne_of_lt hb')]
      exact (hf b hb).1
  done := by
    intro X hP hw hK hc i pins s σ H E I hf st hg
    subst hP hw hK
    obtain ⟨⟨old, he⟩, hit, hne⟩ := st
    obtain ⟨f0, f1, f2, f3, f4, f5⟩ := hf it (by simp)
    have D : Draws X.prog X.w X.A.in1 it [it] x.cps.size (fun i v => ∃ c u, x.cps[i]? = some c ∧ v = .str ⟨#[c]⟩ u) (fun i h => h.IsStrIter it (strIterType x) x t i) := by
      unfold strIterType
      split
      · exact Draws.strAscii (A := X.A.in1) (I.ok.hd hc) it x t
      · exact Draws.strWide (A := X.A.in1) (I.ok.hd hc) it x t
    have hg : i = x.cps.size := hg
    subst hg
    exact wpAny_pyNext_enum_endD D he hit fun h' eb => ⟨rfl, I.turned (t' := s.toks) (fun b o hb q => eb b o hb q) f0 f1 f3 f4 f5⟩
  self := fun A i s Q E st h => let ⟨⟨_, he⟩, _⟩ := st; wpAny_pyIter_enum he h
def iEnumS (ta : TA) : TI := fun σ H R => ta σ H fun vs H1 => ∃ z, vs = [.str z] ∧ R (Ites z) H1
theorem pi_enumS {X : Cx} {e : Expr} {ta : TA} {p pos tpos : Pos} {elts : List Expr} {kk : Nat} (hg : Gl X "enumerate") (hm : X.mg "enumerate" = none) (ha : PA X [e] ta) (hs : starEach [e] X.env = [(false, eval e X.env)] := by rfl) :
    PI X (.Tuple elts kk tpos) (.Call (.Name "enumerate" p) [e] [] pos) (iEnumS ta) := by
  refine ⟨fun pins s σ H R I h => ?_⟩
  refine Call_ (ld_blt I hg hm boot_enumerate (PyProof.Rows.callWith_type1 (thn (ha.run pos pins s σ H _ I h) fun us s1 ⟨vs, H1, I1, r1, q1⟩ => ?_) hs rfl))
  obtain ⟨z, ex, q⟩ := q1
  subst ex
  cases r1 with
  | cons r rr =>
    cases rr
    obtain ⟨t, rfl⟩ := r
    refine call_enumerate_str fun h' he hit hsz hk => wpAny_pyIter_enum he ?_
    have I2 : Inv X pins σ H1 { s1 with heap := h' } := I1.kept (t' := s1.toks) hk
    refine ⟨s1.heap.objs.size + 1, [s1.heap.objs.size + 1, s1.heap.objs.size], _, _, H1, rfl, I2, turn_enumS z t (s1.heap.objs.size + 1) s1.heap.objs.size, ⟨⟨.none, he⟩, hit, Nat.succ_ne_self _⟩, fun b hb => ?_, q⟩
    have e' : b = s1.heap.objs.size + 1 ∨ b = s1.heap.objs.size := by simpa using hb
    have hle : s1.heap.objs.size ≤ b := by
      rcases e' with z | z
      · rw [z]; exact Nat.le_add_right _ _
      · rw [z]; exact Nat.le_refl _
    exact I1.fpOk hle (I1.hok.fresh hle)
section
variable {T : Sto} {s : T.S} {ρ : DEnv} {R : PyData → T.S → Prop} {N : DEnv → T.S → Prop} {te : TE} {ta : TA} {tb : TS} {g : TG} {K : PySem.W.Frag}
theorem ws_for_enumS {α : Type} (C : α → DEnv) (J : Nat → α → Prop) (a0 : α) (h : WA T ta s ρ fun xs s1 => ∃ z : Str, xs = [.str z] ∧ LeE (C a0) ρ ∧ J 0 a0 ∧
      (∀ (i c : Nat) s' a, z.cps.toList[i]? = some c → J i a → WG T g (.tuple [.int (i : Int), .str (tx [c])]) s' (C a) fun ρ2 s2 => WS T tb s2 ρ2 R fun ρ' _ => ∃ a', J (i + 1) a' ∧ LeE (C a') ρ') ∧ ∀ s' a, J z.length a → N (C a) s') :
    WS T (tFor (iEnumS ta) g tb) s ρ R N := fun A0 H0 B σ H c D r n =>
  h A0 H0 B σ H c _ fun vs H1 xs s1 ⟨z, ex, le, j0, hs, hd⟩ e a d => by
    subst ex
    cases d with
    | cons d1 d2 =>
      cases d1
      cases d2
      have c1 := c.step e a
      refine ⟨z, rfl, fun i m σ' H' => m = z.cps.size - i ∧ i ≤ z.cps.size ∧ ∃ B' s' a, J i a ∧ Cxt T A0 H0 B' σ' H' s' (C a), ⟨_, rfl, Nat.zero_le _, B, s1, a0, j0, c1.weak le⟩, ?_⟩
      rintro i m σ' H' ⟨rfl, hi, B', s', a, hJ, c'⟩
      by_cases hlt : i < z.cps.size
      · refine .inr ⟨hlt, fun σ2 H2 => i + 1 ≤ z.cps.size ∧ ∃ B' s' a, J (i + 1) a ∧ Cxt T A0 H0 B' σ2 H2 s' (C a), fun σ2 H2 h2 => ⟨_, by omega, rfl, h2.1, h2.2⟩, ?_⟩
        rintro v H2 ⟨p, cc, rfl, hp, rfl, hx⟩
        have sm : Same H' (upd H' p (.tup [.int (i : Nat), .str ⟨#[cc]⟩])) := fun b o q => by rw [upd_ne (ne_of_none q hp)]; exact q
        have c2 := c'.grow sm
        have hpB : ¬ B' p := fun z => c'.dm p z hp
        refine hs i cc s' a (by rw [← hx]; simp) hJ A0 H0 B' σ' _ c2 (.ref p) (.tup (cut_of upd_same hpB) (.cons (.int _) (.cons (.str _) .nil))) _ fun σ3 ρ3 hw c3 => ?_
        exact hw A0 H0 B' σ3 _ c3 _ r fun B4 σ4 H4 s4 ρ4 ⟨a4, h4, le4⟩ c4 => ⟨hlt, B4, s4, a4, h4, c4.weak le4⟩
      · have he : i = z.cps.size := by omega
        subst he
        exact .inl ⟨rfl, n B' σ' H' s' (C a) (hd s' a hJ) c'⟩
end
end J

namespace J
open PySem L2
/-! ### an object with a text and a place -/
def rdF (z : Str) (p : Nat) : List (Str × V) := [("text", .str z), ("place", .int (p : Int))]
theorem lk_text {z : Str} {p : Nat} : (rdF z p).lookup (Str.ofString "text") = some (V.str z) := by
  unfold rdF
  rw [List.lookup_cons, show ((Str.ofString "text") == Str.ofString "text") = true from by decide +kernel]
theorem lk_place {z : Str} {p : Nat} : (rdF z p).lookup (Str.ofString "place") = some (V.int (p : Int)) := by
  unfold rdF
  rw [List.lookup_cons, show ((Str.ofString "place") == Str.ofString "text") = false from by decide +kernel, List.lookup_cons, show ((Str.ofString "place") == Str.ofString "place") = true from by decide +kernel]
theorem lk_other {z : Str} {p : Nat} {m : Str} (h1 : (m == Str.ofString "text") = false) (h2 : (m == Str.ofString "place") = false) : (rdF z p).lookup m = none := by
  unfold rdF
  rw [List.lookup_cons, h1, List.lookup_cons, h2]
  rfl
theorem tp_ne : ¬ (Str.ofString "text") = Str.ofString "place" := by decide +kernel
theorem put_place {z : Str} {p q : Nat} : putF (Str.ofString "place") (.int (q : Int)) (rdF z p) = rdF z q := by
  unfold rdF putF
  rw [if_neg tp_ne]
  unfold putF
  rw [if_pos rfl]
theorem put_first {z : Str} : putF (Str.ofString "text") (.str z) [] = [(Str.ofString "text", V.str z)] := rfl
theorem put_second {z : Str} : putF (Str.ofString "place") (.int 0) [(Str.ofString "text", V.str z)] = rdF z 0 := by
  unfold rdF putF
  rw [if_neg tp_ne]
  rfl
@[reducible] def rdS (r C dx : Addr) (z : Str) : Sto := ⟨Nat, fun a => a = r, fun p H => H r = some (.ins C dx (rdF z p)), fun _ H H' e h => e r _ rfl h, fun _ H a h f => by rw [f, h]; exact (fun y => nomatch y), fun _ _ _ => False, fun _ _ _ => False⟩
def PreR := Str → Nat → List PyData → (PyData → Nat → Prop) → Prop
def spRd (C : Addr) (P : PreR) : Sp := fun vs H Q _ => ∃ (r dx : Addr) (z : Str) (p : Nat) (us : List V) (B : Addr → Prop) (ds : List PyData) (Ψ : PyData → Nat → Prop), vs = .ref r :: us ∧ B r ∧ H r = some (.ins C dx (rdF z p)) ∧ (∀ a, B a → H a ≠ none) ∧ DDs (cut B H) us ds ∧ P z p ds Ψ ∧
  ∀ v H' x p', Ψ x p' → Fr (fun a => a = r) H H' → H' r = some (.ins C dx (rdF z p')) → DD (cut B H') v x → Q v H'
def spRini (C : Addr) : Sp := fun vs H Q _ => ∃ (r dx : Addr) (z : Str), vs = [.ref r, .str z] ∧ H r = some (.ins C dx []) ∧ ∀ H', Fr (fun a => a = r) H H' → H' r = some (.ins C dx (rdF z 0)) → Q .non H'
theorem zeroR {C : Addr} {Pr : PreR} (h : ∀ z p ds Ψ, ¬ Pr z p ds Ψ) : ∀ vs H Q E, ¬ spRd C Pr vs H Q E := fun vs H Q E ⟨_, _, z, p, _, _, ds, Ψ, _, _, _, _, _, hp, _⟩ => h z p ds Ψ hp
section
variable {r C dx : Addr} {z : Str} {s : Nat} {ρ : DEnv} {Φ : PyData → Nat → Prop} {R : PyData → Nat → Prop} {N : DEnv → Nat → Prop} {K : PySem.W.Frag} {i : Nat} {te : TE} {ta : TA}
theorem wp_fText (hi : ρ[i]? = some (some (.v (.ref r)))) (cl : Cls K C) (na : NoAttr K C "text") (q : Φ (.str z) s) : WE (rdS r C dx z) (tFld K (tVar i) "text") s ρ Φ := fun A0 H0 B σ H c Q k =>
  ⟨_, join_some (c.sl i _ hi), r, C, dx, _, .str z, rfl, c.at_, cl, na, lk_text, k _ H _ s q Fr.refl c.at_ (.str z)⟩
theorem wp_fPlace (hi : ρ[i]? = some (some (.v (.ref r)))) (cl : Cls K C) (na : NoAttr K C "place") (q : Φ (.int (s : Int)) s) : WE (rdS r C dx z) (tFld K (tVar i) "place") s ρ Φ := fun A0 H0 B σ H c Q k =>
  ⟨_, join_some (c.sl i _ hi), r, C, dx, _, .int (s : Int), rfl, c.at_, cl, na, lk_place, k _ H _ s q Fr.refl c.at_ (.int _)⟩
theorem ws_place (hi : ρ[i]? = some (some (.v (.ref r)))) (cl : Cls K C) (na : NoAttr K C "place") (h : WE (rdS r C dx z) te s ρ fun y s1 => ∃ q : Nat, y = .int (q : Int) ∧ N ρ q) : WS (rdS r C dx z) (sFld K (tVar i) te "place") s ρ R N := fun A0 H0 B σ H c D rr n =>
  h A0 H0 B σ H c _ fun v H1 x s1 ⟨q, ex, hn⟩ e1 a1 d1 => by
    subst ex
    cases d1
    have c1 := c.step e1 a1
    refine ⟨_, join_some (c1.sl i _ hi), r, C, dx, _, rfl, a1, cl, na, Nat.le_of_ble_eq_true rfl, ?_⟩
    rw [put_place]
    exact n B σ _ q ρ hn (c1.step (fun b o hb hne => by rw [upd_ne hne]; exact hb) upd_same)
theorem wp_methR {m : Str} {P : PreR} {E : XK} (hi : ρ[i]? = some (some (.v (.ref r)))) (h1 : (m == Str.ofString "text") = false) (h2 : (m == Str.ofString "place") = false) (h : WA (rdS r C dx z) ta s ρ fun xs s1 => P z s1 xs Φ) : WE (rdS r C dx z) (tMeth C m (spRd C P) [] E (tVar i) ta) s ρ Φ := fun A0 H0 B σ H c Q k =>
  ⟨_, join_some (c.sl i _ hi), r, dx, _, rfl, c.at_, lk_other h1 h2, h A0 H0 B σ H c _ fun vs H1 xs s1 hp e1 a1 d1 =>
    ⟨r, dx, z, s1, vs, B, xs, Φ, by rw [List.append_nil], c.fb r rfl, a1, (c.step e1 a1).dm, d1, hp, fun v H' x p' hx e a d => k v H' x p' hx (e1.trans e) a d⟩⟩
end
section
variable {T : Sto} {s : T.S} {ρ : DEnv} {Φ : PyData → T.S → Prop} {te : TE} {C : Addr} {m sg : Str} {P : PreR}
/-- a reader is made and asked at once -/
theorem wp_reader (h1 : (m == Str.ofString "text") = false) (h2 : (m == Str.ofString "place") = false) (h : WE T te s ρ fun x s1 => ∃ z, x = .str z ∧ P z 0 [.str sg] fun y _ => Φ y s1) :
    WE T (tMeth C m (spRd C P) [] E0 (tMake C (spRini C) [] E0 (tCons te tNil)) (tCons (tC (.str sg)) tNil)) s ρ Φ := fun A0 H0 B σ H c Q k =>
  h A0 H0 B σ H c _ fun v H1 x s1 ⟨z, ex, hp⟩ e1 a1 d1 => by
    subst ex
    cases d1
    have c1 := c.step e1 a1
    intro r dx hr hdx ne
    have up : ∀ b o, H1 b = some o → (upd (upd H1 dx (.own r)) r (.ins C dx [])) b = some o := fun b o q => by
      rw [upd_ne (ne_of_none q hr), upd_ne (ne_of_none q hdx)]; exact q
    refine ⟨r, dx, z, rfl, upd_same, fun H2 fr h3 => ⟨rfl, r, dx, _, rfl, h3, lk_other h1 h2, ?_⟩⟩
    have up2 : ∀ b o, H1 b = some o → H2 b = some o := fun b o q => fr b o (up b o q) (ne_of_none q hr)
    refine ⟨r, dx, z, 0, [.str sg], fun a => B a ∨ a = r, [.str sg], _, rfl, .inr rfl, h3, fun a q => ?_, .cons (.str _) .nil, hp, fun v H3 y p' hy fr2 h4 dd => ?_⟩
    · rcases q with q | q
      · cases e : H1 a with
        | none => exact absurd e (c1.dm a q)
        | some o => rw [up2 a o e]; exact fun z => nomatch z
      · rw [q, h3]; exact fun z => nomatch z
    · have up3 : ∀ b o, H1 b = some o → H3 b = some o := fun b o q => fr2 b o (up2 b o q) (ne_of_none q hr)
      exact k v H3 y s1 hy (e1.trans fun b o q _ => up3 b o q) (T.loc s1 H1 H3 (fun a o _ q => up3 a o q) a1) (DD.mono (cut_mono fun a q => .inl q) _ _ dd)
end
/-! ### methods -/
def CalM (P : Program) (w : World) (K : PySem.W.Frag) (mg : Str → Option Value) (base : Heap) (k : Nat) (C : Addr) (m : Str) (ps : List Str) (sp : Sp) : Prop :=
  ∃ (f : Addr) (fd : FuncData), Meth K C m f ∧ Binds K fd ps [] ∧ FnOk P w K mg base CX0 k f fd ps sp
def CalMk (P : Program) (w : World) (K : PySem.W.Frag) (mg : Str → Option Value) (base : Heap) (k : Nat) (C : Addr) (ps : List Str) (sp : Sp) : Prop :=
  ∃ (f : Addr) (fd : FuncData), Mk K C f ∧ Binds K fd ps [] ∧ FnOk P w K mg base CX0 k f fd ps sp
section
variable {X : Cx} {k : Nat} {C : Addr} {m x : Str} {ps : List Str} {sp : Sp} {o e : Expr} {es : List Expr} {ta : TE} {t : TA} {p apos pos : Pos}
theorem pe_callM {pl : Sem Bool} (he : PE X o ta) (cl : Cls X.K C) (h : CalM X.prog X.w X.K X.mg X.base k C m ps sp) (hr : Room k X.A) (ha : PA X (e :: es) t)
    (hst : starEach (e :: es) X.env = (false, eval e X.env) :: starEach es X.env := by rfl) (hpl : (backTo pos (starEach es X.env)).any (·.1) = false := by rfl)
    (ht : eval (.Call (.Attribute o m apos) (e :: es) [] pos) X.env = (do
      let ov ← eval o X.env
      standAt apos.atName
      let (f, first) ← holding [ov] (getMethod ov m pl)
      callWith pos f first (backTo pos (starEach (e :: es) X.env)) (backToKw pos (keywordEach [] X.env))) := by rfl) :
    PE X (.Call (.Attribute o m apos) (e :: es) [] pos) (tMeth C m sp [] E0 ta t) := by
  obtain ⟨f, fd, hm, hb, F⟩ := h
  exact pe_meth he cl hm F hr hb .nil pass0 ha hst hpl ht
theorem pe_callM0 {pl : Sem Bool} (he : PE X o ta) (cl : Cls X.K C) (h : CalM X.prog X.w X.K X.mg X.base k C m ps sp) (hr : Room k X.A)
    (ht : eval (.Call (.Attribute o m apos) [] [] pos) X.env = (do
      let ov ← eval o X.env
      standAt apos.atName
      let (f, first) ← holding [ov] (getMethod ov m pl)
      callWith pos f first (backTo pos (starEach [] X.env)) (backToKw pos (keywordEach [] X.env))) := by rfl) :
    PE X (.Call (.Attribute o m apos) [] [] pos) (tMeth C m sp [] E0 ta tNil) := by
  obtain ⟨f, fd, hm, hb, F⟩ := h
  exact pe_meth0 he cl hm F hr hb .nil pass0 ht
theorem pe_mk (h : CalMk X.prog X.w X.K X.mg X.base k C ps sp) (hm : X.mg x = some (.ref C)) (hr : Room (k + 1) X.A) (hg : Gl X x) (ha : PA X (e :: es) t) (hdb : (x == ("__debug__" : Str)) = false := by decide)
    (he : starEach (e :: es) X.env = (false, eval e X.env) :: starEach es X.env := by rfl) (hpl : (backTo pos (starEach es X.env)).any (·.1) = false := by rfl) : PE X (.Call (.Name x p) (e :: es) [] pos) (tMake C sp [] E0 t) := by
  obtain ⟨f, fd, M, hb, F⟩ := h
  exact pe_make M F hr hg hm hb .nil pass0 ha hdb he hpl
end
theorem calM_zero {P : Program} {w : World} {K : PySem.W.Frag} {mg : Str → Option Value} {base : Heap} {k : Nat} {C : Addr} {m : Str} {ps : List Str} {sp : Sp} {f : Addr} {fd : FuncData} (M : Meth K C m f) (B : Binds K fd ps []) (z : ∀ vs H Q E, ¬ sp vs H Q E) :
    CalM P w K mg base k C m ps sp := ⟨f, fd, M, B, ⟨fun vs H Q E h => absurd h (z vs H Q E), fun A outer s H args us vs Q E _ _ _ _ h => absurd h (z vs H Q E)⟩⟩
def initR (r : Addr) (N : List Str) (ds : List PyData) : DEnv := some (.v (.ref r)) :: init N.tail ds
theorem cxt_startR {N : List Str} {x : Str} {vs : List V} {ds : List PyData} {B : Addr → Prop} {H : Hp} {r C dx : Addr} {z : Str} {p : Nat} (dm : ∀ a, B a → H a ≠ none) (d : DDs (cut B H) vs ds) (hb : B r) (ha : H r = some (.ins C dx (rdF z p))) :
    Cxt (rdS r C dx z) B H B (L2.start (x :: N) (.ref r :: vs)) H p (initR r (x :: N) ds) := by
  have c := cxt_start (N := N) dm d
  have e : L2.start (x :: N) (.ref r :: vs) = some (.ref r) :: L2.start N vs := by
    unfold L2.start
    simp only [List.map_cons, List.cons_append, List.length_cons, Nat.add_sub_add_right]
  rw [e]
  unfold initR
  refine ⟨fun a z => by rw [z]; exact hb, dm, ha, by rw [List.length_cons, List.length_cons, List.tail_cons]; exact congrArg (· + 1) c.ln, fun i w q => ?_, Fr.refl, fun a z => z, dm, fun a z => .inl z, fun i j xs ys p h1 _ => ?_, fun _ _ _ _ _ z => z.elim⟩
  · cases i with
    | zero =>
      cases q
      rfl
    | succ i =>
      obtain ⟨x, h1, rfl⟩ := init_get (N := N) (by simpa using q)
      obtain ⟨v, h2, h3⟩ := d.get h1
      exact ⟨v, by rw [List.getElem?_cons_succ, start_get h2]; rfl, h3⟩
  · cases i with
    | zero => cases h1
    | succ i =>
      obtain ⟨x, _, h⟩ := init_get (N := N) (by simpa using h1)
      cases h
theorem fnRd {P : Program} {w : World} {K : PySem.W.Frag} {mg : Str → Option Value} {base : Heap} {x qual : Str} {st : Stmt} {f : Addr} {fd : FuncData} {N ps : List Str} {y : Str} {k : Nat} {C : Addr} {Pr : PreR} {t : TS} (F : Fun K x qual st f fd) (S : FnScope (y :: N) ps (defScope st))
    (len : ∀ z p ds Ψ, Pr z p ds Ψ → ds.length + 1 = ps.length)
    (hb : ∀ (cdv : Value) (A : Around) (outer : List PySem.Env) (s : Shared) (H : Hp) (E : XK), Room k (A.deeper (PyProof.Rows.envOfC qual (defScope st) s.heap.objs.size f cdv)) → PSs (cxOf CX0 P w K mg base (y :: N) qual (defScope st) f cdv A outer s H E).nox (defBody st) t)
    (hw : ∀ r dx z p ds Ψ, Pr z p ds Ψ → WS (rdS r C dx z) t p (initR r (y :: N) ds) (fun x p' => Ψ x p') (fun _ p' => Ψ .none p')) : FnOk P w K mg base CX0 (k + 1) f fd ps (spRd C Pr) := by
  refine F.ok S (fun vs H Q E h => ?_) (fun cdv A outer s H vs Q E hr h => ?_)
  · obtain ⟨r, dx, z, p, us, B, ds, Ψ, rfl, _, _, _, d, hp, _⟩ := h
    rw [List.length_cons, d.len]
    exact len z p ds Ψ hp
  · obtain ⟨r, dx, z, p, us, B, ds, Ψ, rfl, hb1, ha, dm, d, hp, q⟩ := h
    refine ⟨t, hb cdv A outer s H E hr, ?_⟩
    refine hw r dx z p ds Ψ hp B H B _ H (cxt_startR dm d hb1 ha) _ (fun v H' y s' hy e a d' => q v H' y s' hy e a d') fun B' σ' H' s' ρ' hn c => q .non H' .none s' hn c.fr c.at_ .non
theorem fnRini {P : Program} {w : World} {K : PySem.W.Frag} {mg : Str → Option Value} {base : Heap} {qual : Str} {st : Stmt} {f : Addr} {fd : FuncData} {C : Addr} (F : Fun K "__init__" qual st f fd) (S : FnScope ["self", "text"] ["self", "text"] (defScope st)) (cl : Cls K C) (n1 : NoAttr K C "text") (n2 : NoAttr K C "place")
    (hb : ∀ (cdv : Value) (A : Around) (outer : List PySem.Env) (s : Shared) (H : Hp) (E : XK), Room 0 (A.deeper (PyProof.Rows.envOfC qual (defScope st) s.heap.objs.size f cdv)) → PSs (cxOf CX0 P w K mg base ["self", "text"] qual (defScope st) f cdv A outer s H E).nox (defBody st)
      (tSeq (sFld K (tVar 0) (tVar 1) "text") (sFld K (tVar 0) (tC (.int 0)) "place"))) : FnOk P w K mg base CX0 1 f fd ["self", "text"] (spRini C) := by
  refine fnR F S (fun vs H Q E h => ?_) hb fun vs H Q E h => ?_
  · obtain ⟨a, dx, z, rfl, _⟩ := h
    rfl
  · obtain ⟨r, dx, z, rfl, ha, q⟩ := h
    refine ⟨_, rfl, _, rfl, r, C, dx, _, rfl, ha, cl, n1, Nat.le_of_ble_eq_true rfl, ?_⟩
    rw [put_first]
    refine ⟨_, rfl, r, C, dx, _, rfl, upd_same, cl, n2, Nat.le_of_ble_eq_true rfl, ?_⟩
    refine q _ (fun b o hb hne => ?_) ?_
    · rw [upd_ne hne, upd_ne hne]; exact hb
    · rw [upd_same, put_second]
/-! ### text.index(sign), a dict that stands at the top -/
def rSIdx : V → List V → Hp → VK → Prop := fun x xs H Q => ∃ a b i rest, x = .str a ∧ xs = [.str b] ∧ Builtin.Str.occurrences a b 0 a.length 1 = i :: rest ∧ Q (.int (i : Nat)) H
theorem mt_sidx {X : Cx} : MtR X "str.index" rSIdx := mt_sindex
structure KDc (K : PySem.W.Frag) (w : World) (a : Addr) (f : Str → Option PyData) : Prop where
  yes : ∀ s d, f s = some d → ∃ v, KDct K w a s v ∧ ∀ H, DD H v d
section
variable {T : Sto} {s : T.S} {ρ : DEnv} {Φ : PyData → T.S → Prop} {to te : TE} {K : PySem.W.Frag} {w : World} {a : Addr} {f : Str → Option PyData}
theorem wp_ixD (kd : KDc K w a f) (h : WE T te s ρ fun y s1 => ∃ x d, y = .str x ∧ f x = some d ∧ Φ d s1) : WE T (tOp (rIxD K w) (tC (.ref a)) te) s ρ Φ := fun A0 H0 B σ H c Q k =>
  h A0 H0 B σ H c _ fun v H1 y s1 ⟨x, d, ey, hf, q⟩ e1 a1 d1 => by
    subst ey
    cases d1
    obtain ⟨u, hu, du⟩ := kd.yes x d hf
    exact ⟨a, x, u, rfl, rfl, hu, k u H1 d s1 q e1 a1 (du _)⟩
theorem wp_sidx (h : WE T to s ρ fun x s1 => ∃ z, x = .str z ∧ WE T te s1 ρ fun y s2 => ∃ b i rest, y = .str b ∧ Builtin.Str.occurrences z b 0 z.length 1 = i :: rest ∧ Φ (.int (i : Nat)) s2) : WE T (tBM K "str" rSIdx to (tCons te tNil)) s ρ Φ := fun A0 H0 B σ H c Q k =>
  h A0 H0 B σ H c _ fun v H1 x s1 ⟨z, ex, h1⟩ e1 a1 d1 => by
    subst ex
    cases d1
    refine ⟨rfl, h1 A0 H0 B σ H1 (c.step e1 a1) _ fun u H2 y s2 ⟨b, i, rest, ey, ho, f⟩ e2 a2 d2 => ?_⟩
    subst ey
    cases d2
    exact ⟨z, b, i, rest, rfl, rfl, ho, k _ H2 _ s2 f (e1.trans e2) a2 (.int _)⟩
end
section
variable {T : Sto} {s : T.S} {ρ : DEnv} {R : PyData → T.S → Prop} {N : DEnv → T.S → Prop} {tb : TS} {tt : TT}
theorem ws_whileS {α : Type} (C : α → DEnv) (I : α → T.S → Prop) (μ : α → Nat) (a0 : α) (h0 : I a0 s) (le : LeE (C a0) ρ) (hs : ∀ a s, I a s → WT T tt s (C a) fun b s1 => if b = true then WS T tb s1 (C a) R (fun ρ' s' => ∃ a', I a' s' ∧ μ a' < μ a ∧ LeE (C a') ρ') else N (C a) s1) : WS T (tWhile tt tb) s ρ R N := by
  refine ws_ends (N' := N) (ws_while (W' := fun m ρ' s' => ∃ a, I a s' ∧ μ a = m ∧ LeE (C a) ρ') (m0 := μ a0) ⟨a0, h0, rfl, le⟩ ?_)
  rintro m ρ' s' ⟨a, ha, rfl, le'⟩
  intro A0 H0 B σ H c Q k
  refine hs a s' ha A0 H0 B σ H (c.weak le') Q fun b H' s1 hb e1 a1 => k b H' s1 ?_ e1 a1
  cases b with
  | true => exact ws_le le' (WS.mono (show WS T tb s1 (C a) R _ from hb) fun ρ2 s2 ⟨a', h1, h2, h3⟩ => ⟨_, h2, a', h1, rfl, h3⟩)
  | false => exact ⟨_, le', hb⟩
end
end J

namespace J
open PySem L2
/-! ### texts of conditions: signs are numbers -/
def sgOf : Bool → Nat
  | true => 38
  | false => 124
def Cn.rank : Cn → Nat
  | .look _ => 4
  | .nt _ => 3
  | .pr true _ _ => 2
  | .pr false _ _ => 1
def rkOf : Bool → Nat
  | true => 2
  | false => 1
theorem rank_pr (b : Bool) (x y : Cn) : (Cn.pr b x y).rank = rkOf b := by cases b <;> rfl
def brk (y : Bool) (l : List Nat) : List Nat := if y = true then l else 40 :: (l ++ [41])
def Cn.txt : Cn → List Nat
  | .look i => [97 + i.toNat]
  | .nt c => 33 :: brk (decide (3 ≤ c.rank)) c.txt
  | .pr b x y => brk (decide (rkOf b ≤ x.rank)) x.txt ++ sgOf b :: brk (decide (rkOf b + 1 ≤ y.rank)) y.txt
def Cn.wth (c : Cn) (k : Nat) : List Nat := brk (decide (k ≤ c.rank)) c.txt
/-! how a text is read: 0 ors, 1 ands, 2 one; h bounds how deep the reading goes -/
mutual
inductive Rd : Nat → Nat → List Nat → Cn → Prop
  | look (h : Nat) (i : Nat) (hi : i < 8) : Rd 2 (h + 1) [97 + i] (.look i)
  | nt {h : Nat} {l : List Nat} {c : Cn} : Rd 2 h l c → Rd 2 (h + 1) (33 :: l) (.nt c)
  | br {h : Nat} {l : List Nat} {c : Cn} : Rd 0 h l c → Rd 2 (h + 1) (40 :: (l ++ [41])) c
  | ands {h : Nat} {l r : List Nat} {a c : Cn} : Rd 2 h l a → Tl true h a r c → Rd 1 (h + 1) (l ++ r) c
  | ors {h : Nat} {l r : List Nat} {a c : Cn} : Rd 1 h l a → Tl false h a r c → Rd 0 (h + 1) (l ++ r) c
inductive Tl : Bool → Nat → Cn → List Nat → Cn → Prop
  | nil {b : Bool} {h : Nat} {a : Cn} : Tl b h a [] a
  | ands {h : Nat} {m r : List Nat} {a d c : Cn} : Rd 2 h m d → Tl true h (.pr true a d) r c → Tl true h a (38 :: (m ++ r)) c
  | ors {h : Nat} {m r : List Nat} {a d c : Cn} : Rd 1 h m d → Tl false h (.pr false a d) r c → Tl false h a (124 :: (m ++ r)) c
end
mutual
theorem Rd.up {k : Nat} : ∀ {lv h : Nat} {l : List Nat} {c : Cn}, Rd lv h l c → Rd lv (h + k) l c
  | _, _, _, _, .look h i hi => by rw [Nat.add_right_comm]; exact .look _ i hi
  | _, _, _, _, .nt h => by rw [Nat.add_right_comm]; exact .nt h.up
  | _, _, _, _, .br h => by rw [Nat.add_right_comm]; exact .br h.up
  | _, _, _, _, .ands h t => by rw [Nat.add_right_comm]; exact .ands h.up t.up
  | _, _, _, _, .ors h t => by rw [Nat.add_right_comm]; exact .ors h.up t.up
theorem Tl.up {k : Nat} : ∀ {b : Bool} {h : Nat} {a : Cn} {r : List Nat} {c : Cn}, Tl b h a r c → Tl b (h + k) a r c
  | _, _, _, _, _, .nil => .nil
  | _, _, _, _, _, .ands h t => .ands h.up t.up
  | _, _, _, _, _, .ors h t => .ors h.up t.up
end
theorem Rd.le {lv h k : Nat} {l : List Nat} {c : Cn} (r : Rd lv h l c) (hk : h ≤ k) : Rd lv k l c := by
  obtain ⟨j, rfl⟩ := Nat.exists_eq_add_of_le hk
  exact r.up
theorem Tl.le {b : Bool} {h k : Nat} {a c : Cn} {r : List Nat} (t : Tl b h a r c) (hk : h ≤ k) : Tl b k a r c := by
  obtain ⟨j, rfl⟩ := Nat.exists_eq_add_of_le hk
  exact t.up
theorem Tl.snoc1 {b : Bool} {h : Nat} {a c d : Cn} {r m : List Nat} (t : Tl b h a r c) (e : b = true) (s : Rd 2 h m d) : Tl b h a (r ++ 38 :: m) (.pr true c d) :=
  match b, h, a, r, c, t, e, s with
  | _, _, a, _, _, .nil, e, s => by
    subst e
    have := Tl.ands (r := []) (a := a) (c := .pr true a d) s Tl.nil
    rw [List.append_nil] at this
    exact this
  | _, _, _, _, _, .ands g t, e, s => by
    have := Tl.ands g (t.snoc1 rfl s)
    rw [← List.append_assoc] at this
    exact this
  | _, _, _, _, _, .ors g t, e, s => nomatch e
termination_by structural t
theorem Tl.snoc0 {b : Bool} {h : Nat} {a c d : Cn} {r m : List Nat} (t : Tl b h a r c) (e : b = false) (s : Rd 1 h m d) : Tl b h a (r ++ 124 :: m) (.pr false c d) :=
  match b, h, a, r, c, t, e, s with
  | _, _, a, _, _, .nil, e, s => by
    subst e
    have := Tl.ors (r := []) (a := a) (c := .pr false a d) s Tl.nil
    rw [List.append_nil] at this
    exact this
  | _, _, _, _, _, .ors g t, e, s => by
    have := Tl.ors g (t.snoc0 rfl s)
    rw [← List.append_assoc] at this
    exact this
  | _, _, _, _, _, .ands g t, e, s => nomatch e
termination_by structural t
theorem Rd.one1 {h : Nat} {l : List Nat} {c : Cn} (r : Rd 2 h l c) : Rd 1 (h + 1) l c := by
  have := Rd.ands (r := []) r Tl.nil
  rw [List.append_nil] at this
  exact this
theorem Rd.one0 {h : Nat} {l : List Nat} {c : Cn} (r : Rd 1 h l c) : Rd 0 (h + 1) l c := by
  have := Rd.ors (r := []) r Tl.nil
  rw [List.append_nil] at this
  exact this
theorem Rd.more1 {h k : Nat} {l m : List Nat} {c d : Cn} (r : Rd 1 h l c) (s : Rd 2 k m d) : Rd 1 (max h (k + 1)) (l ++ 38 :: m) (.pr true c d) := by
  cases r with
  | @ands h l r a _ g t =>
    have := Rd.ands (g.le (k := max h k) (by omega)) ((t.le (k := max h k) (by omega)).snoc1 rfl (s.le (by omega)))
    rw [← List.append_assoc] at this
    exact this.le (by omega)
theorem Rd.more0 {h k : Nat} {l m : List Nat} {c d : Cn} (r : Rd 0 h l c) (s : Rd 1 k m d) : Rd 0 (max h (k + 1)) (l ++ 124 :: m) (.pr false c d) := by
  cases r with
  | @ors h l r a _ g t =>
    have := Rd.ors (g.le (k := max h k) (by omega)) ((t.le (k := max h k) (by omega)).snoc0 rfl (s.le (by omega)))
    rw [← List.append_assoc] at this
    exact this.le (by omega)
/-- a written condition is read as it -/
theorem Cn.rd : ∀ c : Cn, c.ok → (3 ≤ c.rank → Rd 2 (4 * c.deep + 1) c.txt c) ∧ (2 ≤ c.rank → Rd 1 (4 * c.deep + 2) c.txt c) ∧ Rd 0 (4 * c.deep + 3) c.txt c
  | .look i, ok => by
    have h : Rd 2 1 (Cn.look i).txt (.look i) := by
      have := Rd.look 0 i.toNat (by have : 0 ≤ i ∧ i < 8 := ok; omega)
      rw [show ((i.toNat : Nat) : Int) = i from by have : 0 ≤ i ∧ i < 8 := ok; omega] at this
      exact this
    exact ⟨fun _ => h, fun _ => h.one1, h.one1.one0⟩
  | .nt c, ok => by
    obtain ⟨h2, h1, h0⟩ := c.rd ok
    have h : Rd 2 (4 * (c.deep + 1) + 1) (33 :: brk (decide (3 ≤ c.rank)) c.txt) (.nt c) := by
      unfold brk
      split
      · rename_i e
        exact (Rd.nt (h2 (of_decide_eq_true e))).le (by omega)
      · exact (Rd.nt (Rd.br h0)).le (by omega)
    exact ⟨fun _ => h, fun _ => h.one1, h.one1.one0⟩
  | .pr true x y, ok => by
    obtain ⟨x2, x1, x0⟩ := x.rd ok.1
    obtain ⟨y2, y1, y0⟩ := y.rd ok.2
    have dx : x.deep ≤ max x.deep y.deep := Nat.le_max_left _ _
    have dy : y.deep ≤ max x.deep y.deep := Nat.le_max_right _ _
    have hx : Rd 1 (4 * x.deep + 5) (brk (decide (2 ≤ x.rank)) x.txt) x := by
      unfold brk
      split
      · rename_i e
        exact (x1 (of_decide_eq_true e)).le (by omega)
      · exact (Rd.br x0).one1.le (by omega)
    have hy : Rd 2 (4 * y.deep + 4) (brk (decide (3 ≤ y.rank)) y.txt) y := by
      unfold brk
      split
      · rename_i e
        exact (y2 (of_decide_eq_true e)).le (by omega)
      · exact (Rd.br y0).le (by omega)
    have h : Rd 1 (4 * (max x.deep y.deep + 1) + 2) (Cn.pr true x y).txt (.pr true x y) := (hx.more1 hy).le (by omega)
    exact ⟨fun z => absurd (show 3 ≤ 2 from z) (by omega), fun _ => h, h.one0⟩
  | .pr false x y, ok => by
    obtain ⟨x2, x1, x0⟩ := x.rd ok.1
    obtain ⟨y2, y1, y0⟩ := y.rd ok.2
    have dx : x.deep ≤ max x.deep y.deep := Nat.le_max_left _ _
    have dy : y.deep ≤ max x.deep y.deep := Nat.le_max_right _ _
    have hx : Rd 0 (4 * x.deep + 6) (brk (decide (1 ≤ x.rank)) x.txt) x := by
      unfold brk
      split
      · exact x0.le (by omega)
      · exact (Rd.br x0).one1.one0.le (by omega)
    have hy : Rd 1 (4 * y.deep + 5) (brk (decide (2 ≤ y.rank)) y.txt) y := by
      unfold brk
      split
      · rename_i e
        exact (y1 (of_decide_eq_true e)).le (by omega)
      · exact (Rd.br y0).one1.le (by omega)
    have h : Rd 0 (4 * (max x.deep y.deep + 1) + 3) (Cn.pr false x y).txt (.pr false x y) := (hx.more0 hy).le (by omega)
    exact ⟨fun z => absurd (show 3 ≤ 1 from z) (by omega), fun z => absurd (show 2 ≤ 1 from z) (by omega), h⟩
/-! ### what may stand next -/
def isLet (c : Nat) : Bool := decide (97 ≤ c) && decide (c ≤ 104)
/-- (how deep, whether a part is behind) after one sign more -/
def goodT (a : Nat × Bool) (c : Nat) : Bool := if a.2 = true then c == 38 || c == 124 || (c == 41 && decide (0 < a.1)) else isLet c || c == 33 || c == 40
def stepT (a : Nat × Bool) (c : Nat) : Option (Nat × Bool) :=
  if goodT a c = true then some (if c = 40 then a.1 + 1 else if c = 41 then a.1 - 1 else a.1, isLet c || c == 41) else none
def scanT : List Nat → Nat × Bool → Option (Nat × Bool)
  | [], a => some a
  | c :: l, a => (stepT a c).bind (scanT l)
theorem scanT_app : ∀ (l m : List Nat) (a : Nat × Bool), scanT (l ++ m) a = (scanT l a).bind (scanT m)
  | [], m, a => rfl
  | c :: l, m, a => by
    show (stepT a c).bind (scanT (l ++ m)) = ((stepT a c).bind (scanT l)).bind (scanT m)
    cases stepT a c with
    | none => rfl
    | some b => exact scanT_app l m b
theorem step_let {d i : Nat} (h : i < 8) : stepT (d, false) (97 + i) = some (d, true) := by
  have e : isLet (97 + i) = true := by unfold isLet; rw [decide_eq_true (by omega), decide_eq_true (by omega)]; rfl
  unfold stepT
  rw [if_pos (by unfold goodT; simp [e]), if_neg (by omega), if_neg (by omega), e]
  rfl
theorem step_bang {d : Nat} : stepT (d, false) 33 = some (d, false) := rfl
theorem step_open {d : Nat} : stepT (d, false) 40 = some (d + 1, false) := rfl
theorem step_close {d : Nat} : stepT (d + 1, true) 41 = some (d, true) := by unfold stepT; simp [isLet, goodT]
theorem step_and {d : Nat} : stepT (d, true) 38 = some (d, false) := rfl
theorem step_or {d : Nat} : stepT (d, true) 124 = some (d, false) := rfl
mutual
theorem Rd.scan : ∀ {lv h : Nat} {l : List Nat} {c : Cn}, Rd lv h l c → ∀ d, scanT l (d, false) = some (d, true)
  | _, _, _, _, .look h i hi, d => by show (stepT (d, false) (97 + i)).bind (scanT []) = _; rw [step_let hi]; rfl
  | _, _, _, _, .nt h, d => by show (stepT (d, false) 33).bind (scanT _) = _; rw [step_bang]; exact h.scan d
  | _, _, _, _, .br h, d => by
    show (stepT (d, false) 40).bind (scanT _) = _
    rw [step_open]
    show scanT (_ ++ [41]) (d + 1, false) = _
    rw [scanT_app, h.scan (d + 1)]
    show (stepT (d + 1, true) 41).bind (scanT []) = _
    rw [step_close]; rfl
  | _, _, _, _, .ands h t, d => by rw [scanT_app, h.scan d]; exact t.scan d
  | _, _, _, _, .ors h t, d => by rw [scanT_app, h.scan d]; exact t.scan d
theorem Tl.scan : ∀ {b : Bool} {h : Nat} {a : Cn} {r : List Nat} {c : Cn}, Tl b h a r c → ∀ d, scanT r (d, true) = some (d, true)
  | _, _, _, _, _, .nil, d => rfl
  | _, _, _, _, _, .ands h t, d => by
    show (stepT (d, true) 38).bind (scanT _) = _
    rw [step_and]
    show scanT (_ ++ _) (d, false) = _
    rw [scanT_app, h.scan d]
    exact t.scan d
  | _, _, _, _, _, .ors h t, d => by
    show (stepT (d, true) 124).bind (scanT _) = _
    rw [step_or]
    show scanT (_ ++ _) (d, false) = _
    rw [scanT_app, h.scan d]
    exact t.scan d
end
theorem Rd.ne {lv h : Nat} {l : List Nat} {c : Cn} (r : Rd lv h l c) : l ≠ [] := fun z => by
  have := r.scan 0
  rw [z] at this
  cases this
/-- the scan of a beginning -/
theorem scan_take {l : List Nat} {a b : Nat × Bool} (h : scanT l a = some b) {i c : Nat} (hc : l[i]? = some c) : ∃ x, scanT (l.take i) a = some x ∧ ∃ y, stepT x c = some y ∧ scanT (l.take (i + 1)) a = some y := by
  obtain ⟨hi, e⟩ := List.getElem?_eq_some_iff.mp hc
  have e1 : l = l.take i ++ c :: l.drop (i + 1) := by
    rw [← e, ← List.drop_eq_getElem_cons hi, List.take_append_drop]
  have e2 : l.take (i + 1) = l.take i ++ [c] := by rw [List.take_succ, hc]; rfl
  rw [e1, scanT_app] at h
  cases hx : scanT (l.take i) a with
  | none => rw [hx] at h; cases h
  | some x =>
    rw [hx] at h
    have h : (stepT x c).bind (scanT (l.drop (i + 1))) = some b := h
    cases hy : stepT x c with
    | none => rw [hy] at h; cases h
    | some y =>
      refine ⟨x, rfl, y, hy, ?_⟩
      rw [e2, scanT_app, hx]
      show (stepT x c).bind (scanT []) = some y
      rw [hy]; rfl
/-! ### lengths -/
theorem brk_len (y : Bool) (l : List Nat) : l.length ≤ (brk y l).length ∧ (brk y l).length ≤ l.length + 2 := by
  unfold brk
  split
  · omega
  · rw [List.length_cons, List.length_append, List.length_singleton]; omega
theorem Cn.txt_len : ∀ c : Cn, c.txt.length ≤ (5 * c.deep + 1) * c.looks
  | .look i => Nat.le_refl 1
  | .nt c => by
    have h := c.txt_len
    have h2 := (brk_len (decide (3 ≤ c.rank)) c.txt).2
    have hk := c.looks_pos
    show (brk _ c.txt).length + 1 ≤ (5 * (c.deep + 1) + 1) * c.looks
    rw [show 5 * (c.deep + 1) + 1 = (5 * c.deep + 1) + 5 from by omega, Nat.add_mul]
    omega
  | .pr b x y => by
    have hx := x.txt_len
    have hy := y.txt_len
    have h1 := (brk_len (decide (rkOf b ≤ x.rank)) x.txt).2
    have h2 := (brk_len (decide (rkOf b + 1 ≤ y.rank)) y.txt).2
    have dx : x.deep ≤ max x.deep y.deep := Nat.le_max_left _ _
    have dy : y.deep ≤ max x.deep y.deep := Nat.le_max_right _ _
    have lx := x.looks_pos
    have ly := y.looks_pos
    show (brk _ x.txt ++ sgOf b :: brk _ y.txt).length ≤ (5 * (max x.deep y.deep + 1) + 1) * (x.looks + y.looks)
    rw [List.length_append, List.length_cons]
    generalize max x.deep y.deep = m at dx dy
    have e1 : (5 * x.deep + 1) * x.looks ≤ (5 * m + 1) * x.looks := Nat.mul_le_mul_right _ (by omega)
    have e2 : (5 * y.deep + 1) * y.looks ≤ (5 * m + 1) * y.looks := Nat.mul_le_mul_right _ (by omega)
    rw [show 5 * (m + 1) + 1 = (5 * m + 1) + 5 from by omega, Nat.add_mul, Nat.mul_add, Nat.mul_add]
    omega
/-! ### the tables that stand at the top -/
def rankF (s : Str) : Option PyData := if s = wOr then some (.int 1) else if s = wAnd then some (.int 2) else if s = wNot then some (.int 3) else if s = wLook then some (.int 4) else none
def signF (s : Str) : Option PyData := if s = wAnd then some (.str (tx [38])) else if s = wOr then some (.str (tx [124])) else none
theorem rank_look : rankF wLook = some (.int 4) := by unfold rankF; rw [if_neg (by decide +kernel), if_neg (by decide +kernel), if_neg (by decide +kernel), if_pos rfl]
theorem rank_not : rankF wNot = some (.int 3) := by unfold rankF; rw [if_neg (by decide +kernel), if_neg (by decide +kernel), if_pos rfl]
theorem rank_wOf (b : Bool) : rankF (wOf b) = some (.int (rkOf b : Nat)) := by
  cases b
  · exact if_pos rfl
  · unfold rankF
    rw [if_neg (by decide +kernel)]
    exact if_pos rfl
theorem sign_wOf (b : Bool) : signF (wOf b) = some (.str (tx [sgOf b])) := by
  cases b
  · unfold signF
    rw [if_neg (by decide +kernel)]
    exact if_pos rfl
  · exact if_pos rfl
section
variable {K : PySem.W.Frag} {w : World} {a : Addr} {es : Array DictEntry} {n : Nat} {t1 t2 t3 t4 : Tok}
theorem kdc_rank (h1 : K.lookup a = some ⟨.type "dict", none, .dict es n, #[]⟩) (h2 : PySem.W.KeysLit w.params es.toList) (y1 : PySem.W.nsIn K a wOr = some (some (.int 1 t1))) (y2 : PySem.W.nsIn K a wAnd = some (some (.int 2 t2))) (y3 : PySem.W.nsIn K a wNot = some (some (.int 3 t3)))
    (y4 : PySem.W.nsIn K a wLook = some (some (.int 4 t4))) : KDc K w a rankF := ⟨fun s d hf => by
  unfold rankF at hf
  split at hf
  · rename_i e; cases hf; subst e; exact ⟨.int 1, ⟨es, n, _, h1, h2, y1, ⟨t1, rfl⟩⟩, fun H => .int 1⟩
  · split at hf
    · rename_i e; cases hf; subst e; exact ⟨.int 2, ⟨es, n, _, h1, h2, y2, ⟨t2, rfl⟩⟩, fun H => .int 2⟩
    · split at hf
      · rename_i e; cases hf; subst e; exact ⟨.int 3, ⟨es, n, _, h1, h2, y3, ⟨t3, rfl⟩⟩, fun H => .int 3⟩
      · split at hf
        · rename_i e; cases hf; subst e; exact ⟨.int 4, ⟨es, n, _, h1, h2, y4, ⟨t4, rfl⟩⟩, fun H => .int 4⟩
        · cases hf⟩
theorem kdc_sign (h1 : K.lookup a = some ⟨.type "dict", none, .dict es n, #[]⟩) (h2 : PySem.W.KeysLit w.params es.toList) (y1 : PySem.W.nsIn K a wAnd = some (some (.str "&" t1))) (y2 : PySem.W.nsIn K a wOr = some (some (.str "|" t2))) : KDc K w a signF := ⟨fun s d hf => by
  unfold signF at hf
  split at hf
  · rename_i e; cases hf; subst e; exact ⟨.str "&", ⟨es, n, _, h1, h2, y1, ⟨t1, rfl⟩⟩, fun H => (show tx [38] = Str.ofString "&" from by decide +kernel) ▸ .str _⟩
  · split at hf
    · rename_i e; cases hf; subst e; exact ⟨.str "|", ⟨es, n, _, h1, h2, y2, ⟨t2, rfl⟩⟩, fun H => (show tx [124] = Str.ofString "|" from by decide +kernel) ▸ .str _⟩
    · cases hf⟩
end
theorem tx1_eq {a b : Nat} : (tx [a] == tx [b]) = decide (a = b) := by
  by_cases h : a = b
  · subst h; simp
  · rw [decide_eq_false h]
    exact beq_eq_false_iff_ne.mpr fun z => h (by have := tx_inj z; simpa using this)
theorem tx1_ok {a : Nat} (h : a < 128) : PyData.strOk (tx [a]) = true := by rw [tx_ok]; simp; omega
theorem s_bang : Str.ofString "!" = tx [33] := by decide +kernel
theorem s_open : Str.ofString "(" = tx [40] := by decide +kernel
theorem s_close : Str.ofString ")" = tx [41] := by decide +kernel
theorem s_and : Str.ofString "&" = tx [38] := by decide +kernel
theorem s_or : Str.ofString "|" = tx [124] := by decide +kernel
theorem s_abc : Str.ofString "abcdefgh" = tx [97, 98, 99, 100, 101, 102, 103, 104] := by decide +kernel
theorem let_at {i : Nat} (h : i < 8) : [97, 98, 99, 100, 101, 102, 103, 104][i]? = some (97 + i) := by
  match i, h with
  | 0, _ => rfl
  | 1, _ => rfl
  | 2, _ => rfl
  | 3, _ => rfl
  | 4, _ => rfl
  | 5, _ => rfl
  | 6, _ => rfl
  | 7, _ => rfl
theorem let_idx {i : Nat} (h : i < 8) : ∃ rest, Builtin.Str.occurrences (Str.ofString "abcdefgh") (tx [97 + i]) 0 (Str.ofString "abcdefgh").length 1 = i :: rest := by
  match i, h with
  | 0, _ => exact ⟨[], by decide +kernel⟩
  | 1, _ => exact ⟨[], by decide +kernel⟩
  | 2, _ => exact ⟨[], by decide +kernel⟩
  | 3, _ => exact ⟨[], by decide +kernel⟩
  | 4, _ => exact ⟨[], by decide +kernel⟩
  | 5, _ => exact ⟨[], by decide +kernel⟩
  | 6, _ => exact ⟨[], by decide +kernel⟩
  | 7, _ => exact ⟨[], by decide +kernel⟩
theorem step_cases {d c : Nat} {b : Bool} {y : Nat × Bool} (h : stepT (d, b) c = some y) :
    (b = true ∧ ((c = 38 ∧ y = (d, false)) ∨ (c = 124 ∧ y = (d, false)) ∨ (c = 41 ∧ ∃ e, d = e + 1 ∧ y = (e, true)))) ∨ (b = false ∧ ((∃ i, i < 8 ∧ c = 97 + i ∧ y = (d, true)) ∨ (c = 33 ∧ y = (d, false)) ∨ (c = 40 ∧ y = (d + 1, false)))) := by
  unfold stepT at h
  by_cases g : goodT (d, b) c = true
  · rw [if_pos g] at h
    cases h
    unfold goodT at g
    cases b with
    | true =>
      simp only [if_true, Bool.or_eq_true, Bool.and_eq_true, beq_iff_eq, decide_eq_true_eq] at g
      refine .inl ⟨rfl, ?_⟩
      rcases g with (g | g) | ⟨g, g0⟩
      · subst g; exact .inl ⟨rfl, rfl⟩
      · subst g; exact .inr (.inl ⟨rfl, rfl⟩)
      · subst g; exact .inr (.inr ⟨rfl, d - 1, by omega, rfl⟩)
    | false =>
      simp only [Bool.false_eq_true, if_false, Bool.or_eq_true, beq_iff_eq] at g
      refine .inr ⟨rfl, ?_⟩
      rcases g with (g | g) | g
      · have g2 := g
        unfold isLet at g2
        simp only [Bool.and_eq_true, decide_eq_true_eq] at g2
        refine .inl ⟨c - 97, by omega, by omega, ?_⟩
        rw [g, if_neg (by omega), if_neg (by omega)]
        rfl
      · subst g; exact .inr (.inl ⟨rfl, rfl⟩)
      · subst g; exact .inr (.inr ⟨rfl, rfl⟩)
  · rw [if_neg g] at h; cases h
theorem scan_small : ∀ {l : List Nat} {a b : Nat × Bool}, scanT l a = some b → ∀ c ∈ l, c < 128
  | x :: l, a, b, h, c, m => by
    have h : (stepT a x).bind (scanT l) = some b := h
    cases hy : stepT a x with
    | none => rw [hy] at h; cases h
    | some y =>
      rw [hy] at h
      rcases List.mem_cons.mp m with rfl | m
      · obtain ⟨d, bb⟩ := a
        rcases step_cases hy with ⟨_, ⟨e, _⟩ | ⟨e, _⟩ | ⟨e, _⟩⟩ | ⟨_, ⟨i, hi, e, _⟩ | ⟨e, _⟩ | ⟨e, _⟩⟩ <;> omega
      · exact scan_small (l := l) h c m
end J

namespace J
open PySem L2
/-! ### no shorter text is read as a condition than its own -/
theorem Cn.rank_pos (c : Cn) : 1 ≤ c.rank := by
  cases c with
  | look i => exact Nat.le_of_ble_eq_true rfl
  | nt c => exact Nat.le_of_ble_eq_true rfl
  | pr b x y => cases b <;> exact Nat.le_of_ble_eq_true rfl
theorem Cn.wth_le {c : Cn} {j k : Nat} (h : j ≤ k) : (c.wth j).length ≤ (c.wth k).length := by
  unfold Cn.wth
  by_cases e : k ≤ c.rank
  · rw [decide_eq_true e, decide_eq_true (show j ≤ c.rank by omega)]
    exact Nat.le_refl _
  · rw [decide_eq_false e]
    have h1 := brk_len (decide (j ≤ c.rank)) c.txt
    unfold brk at h1 ⊢
    simp only [Bool.false_eq_true, if_false, List.length_cons, List.length_append, List.length_singleton] at h1 ⊢
    omega
theorem Cn.wth_1 (c : Cn) : c.wth 1 = c.txt := by
  unfold Cn.wth brk
  rw [if_pos (decide_eq_true c.rank_pos)]
theorem wth_len {c : Cn} {k : Nat} : (c.wth k).length ≤ c.txt.length + 2 := (brk_len _ _).2
theorem nt_wth (c : Cn) : ((Cn.nt c).wth 3).length = (c.wth 3).length + 1 := rfl
theorem pr1_wth (x y : Cn) : ((Cn.pr true x y).wth 2).length = (x.wth 2).length + (y.wth 3).length + 1 := by
  show (x.wth 2 ++ 38 :: y.wth 3).length = _
  rw [List.length_append, List.length_cons]; omega
theorem pr0_wth (x y : Cn) : ((Cn.pr false x y).wth 1).length = (x.wth 1).length + (y.wth 2).length + 1 := by
  show (x.wth 1 ++ 124 :: y.wth 2).length = _
  rw [List.length_append, List.length_cons]; omega
mutual
theorem Rd.short : ∀ {lv h : Nat} {l : List Nat} {c : Cn}, Rd lv h l c → (c.wth (lv + 1)).length ≤ l.length
  | _, _, _, _, .look h i hi => Nat.le_refl 1
  | _, _, _, _, .nt h => by
    have h1 : (Cn.wth _ 3).length ≤ _ := h.short
    show ((Cn.nt _).wth 3).length ≤ _
    rw [nt_wth, List.length_cons]
    omega
  | _, _, _, _, .br (c := c) h => by
    have := h.short
    rw [Cn.wth_1] at this
    have := wth_len (c := c) (k := 3)
    rw [List.length_cons, List.length_append, List.length_singleton]
    show (c.wth 3).length ≤ _
    omega
  | _, _, _, _, .ands (a := a) h t => by
    have h1 := h.short
    have h2 := t.short
    have h3 := Cn.wth_le (c := a) (show 2 ≤ 3 by omega)
    rw [List.length_append]
    have h2 : (Cn.wth _ 2).length ≤ (a.wth 2).length + _ := h2
    have h1 : (a.wth 3).length ≤ _ := h1
    show (Cn.wth _ 2).length ≤ _
    omega
  | _, _, _, _, .ors (a := a) h t => by
    have h1 := h.short
    have h2 := t.short
    have h3 := Cn.wth_le (c := a) (show 1 ≤ 2 by omega)
    rw [List.length_append]
    have h2 : (Cn.wth _ 1).length ≤ (a.wth 1).length + _ := h2
    have h1 : (a.wth 2).length ≤ _ := h1
    show (Cn.wth _ 1).length ≤ _
    omega
theorem Tl.short : ∀ {b : Bool} {h : Nat} {a : Cn} {r : List Nat} {c : Cn}, Tl b h a r c → (c.wth (if b = true then 2 else 1)).length ≤ (a.wth (if b = true then 2 else 1)).length + r.length
  | _, _, _, _, _, .nil => by omega
  | _, _, _, _, _, .ands (m := m) (r := r) (a := a) (d := d) h t => by
    have h1 := h.short
    have h2 := t.short
    have h1 : (d.wth 3).length ≤ m.length := h1
    have h2 : (Cn.wth _ 2).length ≤ ((Cn.pr true a d).wth 2).length + r.length := h2
    rw [pr1_wth] at h2
    show (Cn.wth _ 2).length ≤ (a.wth 2).length + (38 :: (m ++ r)).length
    rw [List.length_cons, List.length_append]
    omega
  | _, _, _, _, _, .ors (m := m) (r := r) (a := a) (d := d) h t => by
    have h1 := h.short
    have h2 := t.short
    have h1 : (d.wth 2).length ≤ m.length := h1
    have h2 : (Cn.wth _ 1).length ≤ ((Cn.pr false a d).wth 1).length + r.length := h2
    rw [pr0_wth] at h2
    show (Cn.wth _ 1).length ≤ (a.wth 1).length + (124 :: (m ++ r)).length
    rw [List.length_cons, List.length_append]
    omega
end
theorem Rd.shortest {h : Nat} {l : List Nat} {c : Cn} (r : Rd 0 h l c) : c.txt.length ≤ l.length := by
  have := r.short
  rw [← c.wth_1]
  exact this
/-! ### texts put together -/
theorem Tl.re {b : Bool} {h : Nat} {a c : Cn} {r : List Nat} (t : Tl b h a r c) : ∀ a' : Cn, ∃ c', Tl b h a' r c' :=
  match b, h, a, r, c, t with
  | _, _, _, _, _, .nil => fun a' => ⟨a', .nil⟩
  | _, _, _, _, _, .ands (d := d) g t => fun a' => by
    obtain ⟨c', t'⟩ := t.re (.pr true a' d)
    exact ⟨c', .ands g t'⟩
  | _, _, _, _, _, .ors (d := d) g t => fun a' => by
    obtain ⟨c', t'⟩ := t.re (.pr false a' d)
    exact ⟨c', .ors g t'⟩
termination_by structural t
theorem Tl.app {b : Bool} {h : Nat} {a c : Cn} {r : List Nat} (t : Tl b h a r c) : ∀ {c' : Cn} {r' : List Nat}, Tl b h c r' c' → Tl b h a (r ++ r') c' :=
  match b, h, a, r, c, t with
  | _, _, _, _, _, .nil => fun u => u
  | _, _, _, _, _, .ands g t => fun u => by
    have := Tl.ands g (t.app u)
    rw [← List.append_assoc] at this
    exact this
  | _, _, _, _, _, .ors g t => fun u => by
    have := Tl.ors g (t.app u)
    rw [← List.append_assoc] at this
    exact this
termination_by structural t
/-- a text at the level of ands, of ors -/
def W1 (h : Nat) (l : List Nat) : Prop := ∃ c, Rd 1 h l c
def W0 (h : Nat) (l : List Nat) : Prop := ∃ c, Rd 0 h l c
theorem W1.and {h : Nat} {l m : List Nat} (a : W1 (h + 1) l) (b : W1 (h + 1) m) : W1 (h + 1) (l ++ 38 :: m) := by
  obtain ⟨c, a⟩ := a
  obtain ⟨d, b⟩ := b
  cases a with
  | @ands _ l0 r0 x _ g t =>
    cases b with
    | @ands _ m0 s0 y _ k u =>
      obtain ⟨c', u'⟩ := u.re (.pr true c y)
      have := Rd.ands g (t.app (Tl.ands k u'))
      rw [← List.append_assoc] at this
      exact ⟨c', this⟩
theorem W0.or {h : Nat} {l m : List Nat} (a : W0 (h + 1) l) (b : W0 (h + 1) m) : W0 (h + 1) (l ++ 124 :: m) := by
  obtain ⟨c, a⟩ := a
  obtain ⟨d, b⟩ := b
  cases a with
  | @ors _ l0 r0 x _ g t =>
    cases b with
    | @ors _ m0 s0 y _ k u =>
      obtain ⟨c', u'⟩ := u.re (.pr false c y)
      have := Rd.ors g (t.app (Tl.ors k u'))
      rw [← List.append_assoc] at this
      exact ⟨c', this⟩
/-- an or's text: ands, or ands ahead of more -/
theorem W0.cases {h : Nat} {l : List Nat} (a : W0 (h + 1) l) : ∃ l0 r, l = l0 ++ r ∧ W1 h l0 ∧ (r = [] ∨ ∃ r', r = 124 :: r' ∧ W0 (h + 1) r') := by
  obtain ⟨c, a⟩ := a
  cases a with
  | @ors _ l0 r0 x _ g t =>
    refine ⟨l0, r0, rfl, ⟨x, g⟩, ?_⟩
    cases t with
    | nil => exact .inl rfl
    | @ors _ m r _ d _ k u =>
      obtain ⟨c', u'⟩ := u.re d
      exact .inr ⟨m ++ r, rfl, c', Rd.ors k u'⟩
theorem W1.w0 {h : Nat} {l : List Nat} (a : W1 h l) : W0 (h + 1) l := by
  obtain ⟨c, a⟩ := a
  exact ⟨c, a.one0⟩
theorem W0.bang {h : Nat} {l : List Nat} (a : W0 (h + 2) l) : W0 (h + 3) (33 :: l) := by
  obtain ⟨c, a⟩ := a
  cases a with
  | @ors _ l0 r0 x _ g t =>
    cases g with
    | @ands _ s r1 y _ k u =>
      obtain ⟨x', u'⟩ := (u.le (k := h + 1) (by omega)).re (.nt y)
      have := Rd.ands (Rd.nt k) u'
      obtain ⟨c', t'⟩ := (t.le (k := h + 2) (by omega)).re x'
      exact ⟨c', by have := Rd.ors this t'; exact this⟩
theorem W0.le {h k : Nat} {l : List Nat} (a : W0 h l) (hk : h ≤ k) : W0 k l := by
  obtain ⟨c, a⟩ := a
  exact ⟨c, a.le hk⟩
theorem W1.le {h k : Nat} {l : List Nat} (a : W1 h l) (hk : h ≤ k) : W1 k l := by
  obtain ⟨c, a⟩ := a
  exact ⟨c, a.le hk⟩
theorem W0.and {h : Nat} {m : List Nat} (b : W0 (h + 2) m) : ∀ (n : Nat) {l : List Nat}, l.length ≤ n → W0 (h + 2) l → W0 (h + 2) (l ++ 38 :: m)
  | n, l, hn, a => by
    obtain ⟨l0, r, rfl, h1, h2⟩ := a.cases
    rcases h2 with rfl | ⟨r', rfl, h2⟩
    · rw [List.append_nil]
      obtain ⟨m0, s, rfl, k1, k2⟩ := b.cases
      have hj := h1.and k1
      rcases k2 with rfl | ⟨s', rfl, k2⟩
      · rw [List.append_nil]
        exact hj.w0
      · have := hj.w0.or k2
        rw [List.append_assoc] at this
        exact this
    · have hlt : r'.length < n := by rw [List.length_append, List.length_cons] at hn; omega
      have := h1.w0.or (W0.and b r'.length (Nat.le_refl _) h2)
      rw [List.append_assoc]
      exact this
termination_by n => n
decreasing_by exact hlt
theorem W0.br {h : Nat} {l : List Nat} (a : W0 h l) : W0 (h + 3) (40 :: (l ++ [41])) := by
  obtain ⟨c, a⟩ := a
  exact ⟨c, (Rd.br a).one1.one0⟩
theorem W0.tail1 {b : Bool} {h : Nat} {a c : Cn} {r : List Nat} (t : Tl b h a r c) (e : b = true) : ∀ {l : List Nat}, W0 (h + 2) l → W0 (h + 2) (l ++ r) :=
  match b, h, a, r, c, t, e with
  | _, _, _, _, _, .nil, _ => fun w => by rw [List.append_nil]; exact w
  | _, _, _, _, _, .ands g t, _ => fun w => by
    have := W0.tail1 t rfl (W0.and ⟨_, g.one1.one0⟩ _ (Nat.le_refl _) w)
    rw [List.append_assoc] at this
    exact this
  | _, _, _, _, _, .ors g t, e => nomatch e
termination_by structural t
theorem W0.tail0 {b : Bool} {h : Nat} {a c : Cn} {r : List Nat} (t : Tl b h a r c) (e : b = false) : ∀ {l : List Nat}, W0 (h + 1) l → W0 (h + 1) (l ++ r) :=
  match b, h, a, r, c, t, e with
  | _, _, _, _, _, .nil, _ => fun w => by rw [List.append_nil]; exact w
  | _, _, _, _, _, .ors g t, _ => fun w => by
    have := W0.tail0 t rfl (w.or ⟨_, g.one0⟩)
    rw [List.append_assoc] at this
    exact this
  | _, _, _, _, _, .ands g t, e => nomatch e
termination_by structural t
/-! ### brackets that belong together -/
def stepB (p c : Nat) (a : List Nat × List (Nat × Nat)) : List Nat × List (Nat × Nat) :=
  if c = 40 then (a.1 ++ [p], a.2) else if c = 41 then (a.1.dropLast, a.2 ++ [(a.1.getLastD 0, p)]) else a
def runB : List Nat → Nat → List Nat × List (Nat × Nat) → List Nat × List (Nat × Nat)
  | [], _, a => a
  | c :: l, p, a => runB l (p + 1) (stepB p c a)
theorem runB_app : ∀ (l m : List Nat) (p : Nat) (a : List Nat × List (Nat × Nat)), runB (l ++ m) p a = runB m (p + l.length) (runB l p a)
  | [], m, p, a => rfl
  | c :: l, m, p, a => by
    show runB (l ++ m) (p + 1) (stepB p c a) = runB m (p + (l.length + 1)) (runB l (p + 1) (stepB p c a))
    rw [runB_app l m, show p + 1 + l.length = p + (l.length + 1) from by omega]
/-- at b and e stand brackets of l; left out, W holds of the rest -/
def Pr (W : List Nat → Prop) (l : List Nat) (b e : Nat) : Prop := ∃ x y w, l = x ++ 40 :: (y ++ 41 :: w) ∧ b = x.length ∧ e = x.length + 1 + y.length ∧ W (x ++ (y ++ w))
theorem Pr.mono {W W' : List Nat → Prop} {l : List Nat} {b e : Nat} (a : Pr W l b e) (h : ∀ l', W l' → W' l') : Pr W' l b e := by
  obtain ⟨x, y, w, h1, h2, h3, h4⟩ := a
  exact ⟨x, y, w, h1, h2, h3, h _ h4⟩
theorem Pr.pre {W W' : List Nat → Prop} {l : List Nat} {b e : Nat} (u : List Nat) (a : Pr W l b e) (h : ∀ l', W l' → W' (u ++ l')) : Pr W' (u ++ l) (u.length + b) (u.length + e) := by
  obtain ⟨x, y, w, h1, h2, h3, h4⟩ := a
  refine ⟨u ++ x, y, w, by rw [h1, List.append_assoc], by rw [List.length_append, h2], by rw [List.length_append, h3]; omega, ?_⟩
  rw [List.append_assoc]
  exact h _ h4
theorem Pr.post {W W' : List Nat → Prop} {l : List Nat} {b e : Nat} (u : List Nat) (a : Pr W l b e) (h : ∀ l', W l' → W' (l' ++ u)) : Pr W' (l ++ u) b e := by
  obtain ⟨x, y, w, h1, h2, h3, h4⟩ := a
  refine ⟨x, y, w ++ u, by rw [h1]; simp, h2, h3, ?_⟩
  have := h _ h4
  rw [List.append_assoc, List.append_assoc] at this
  exact this
def Brs (W : List Nat → Prop) (l : List Nat) : Prop := ∀ p wt fs, ∃ P : List (Nat × Nat), runB l p (wt, fs) = (wt, fs ++ P) ∧ ∀ q ∈ P, ∃ b e, q = (p + b, p + e) ∧ Pr W l b e
theorem Brs.app {W : List Nat → Prop} {W1 W2 : List Nat → Prop} {l m : List Nat} (a : Brs W1 l) (b : Brs W2 m) (h1 : ∀ l', W1 l' → W (l' ++ m)) (h2 : ∀ l', W2 l' → W (l ++ l')) : Brs W (l ++ m) := fun p wt fs => by
  obtain ⟨P, e1, k1⟩ := a p wt fs
  obtain ⟨Q, e2, k2⟩ := b (p + l.length) wt (fs ++ P)
  refine ⟨P ++ Q, by rw [runB_app, e1, e2, List.append_assoc], fun q hq => ?_⟩
  rcases List.mem_append.mp hq with hq | hq
  · obtain ⟨b, e, rfl, hp⟩ := k1 q hq
    exact ⟨b, e, rfl, hp.post m h1⟩
  · obtain ⟨b, e, rfl, hp⟩ := k2 q hq
    exact ⟨l.length + b, l.length + e, by rw [Nat.add_assoc, Nat.add_assoc], hp.pre l h2⟩
theorem Brs.one {W : List Nat → Prop} {c : Nat} (h1 : c ≠ 40) (h2 : c ≠ 41) : Brs W [c] := fun p wt fs => by
  refine ⟨[], ?_, fun q hq => nomatch hq⟩
  show stepB p c (wt, fs) = _
  unfold stepB
  rw [if_neg h1, if_neg h2, List.append_nil]
theorem Brs.br {W W' : List Nat → Prop} {l : List Nat} (a : Brs W l) (h1 : ∀ l', W l' → W' (40 :: (l' ++ [41]))) (h2 : W' l) : Brs W' (40 :: (l ++ [41])) := fun p wt fs => by
  obtain ⟨P, e1, k1⟩ := a (p + 1) (wt ++ [p]) fs
  refine ⟨P ++ [(p + 0, p + (1 + l.length))], ?_, fun q hq => ?_⟩
  · show runB (l ++ [41]) (p + 1) (stepB p 40 (wt, fs)) = _
    rw [show stepB p 40 (wt, fs) = (wt ++ [p], fs) from rfl, runB_app, e1]
    show stepB (p + 1 + l.length) 41 (wt ++ [p], fs ++ P) = _
    unfold stepB
    rw [if_neg (by decide), if_pos rfl]
    simp only [List.dropLast_concat, List.append_assoc]
    rw [show (wt ++ [p]).getLastD 0 = p from by simp [List.getLastD_eq_getLast?], show p + 1 + l.length = p + (1 + l.length) from by omega]
    rfl
  · rcases List.mem_append.mp hq with hq | hq
    · obtain ⟨b, e, rfl, hp⟩ := k1 q hq
      refine ⟨1 + b, 1 + e, by rw [Nat.add_assoc, Nat.add_assoc], ?_⟩
      exact (hp.post (W' := fun z => W' (40 :: z)) [41] h1).pre [40] fun l' z => z
    · rw [List.mem_singleton.mp hq]
      exact ⟨0, 1 + l.length, rfl, [], l, [], rfl, rfl, by simp, by rw [List.append_nil]; exact h2⟩
mutual
theorem Rd.brs : ∀ {lv h : Nat} {l : List Nat} {c : Cn}, Rd lv h l c → Brs (W0 (h + lv)) l
  | _, _, _, _, .look h i hi => Brs.one (by omega) (by omega)
  | _, _, _, _, .nt (l := l) h => Brs.app (l := [33]) (W1 := fun _ => False) (Brs.one (by decide) (by decide)) h.brs (fun _ z => z.elim) fun l' z => z.bang
  | _, _, _, _, .br h => Brs.br h.brs (fun l' z => z.br) (W0.le ⟨_, h⟩ (by omega))
  | _, _, _, _, .ands h t => Brs.app h.brs (t.brs1 rfl) (fun l' z => W0.tail1 t rfl z) fun l' z => z _ ⟨_, h.one1.one0⟩
  | _, _, _, _, .ors h t => Brs.app h.brs (t.brs0 rfl) (fun l' z => W0.tail0 t rfl z) fun l' z => z _ ⟨_, h.one0⟩
theorem Tl.brs1 : ∀ {b : Bool} {h : Nat} {a : Cn} {r : List Nat} {c : Cn}, Tl b h a r c → b = true → Brs (fun l' => ∀ l, W0 (h + 2) l → W0 (h + 2) (l ++ l')) r
  | _, _, _, _, _, .nil, _ => fun p wt fs => ⟨[], by rw [List.append_nil]; rfl, fun q hq => nomatch hq⟩
  | _, h, _, _, _, .ands (m := m) (r := r) g t, _ => Brs.app (l := [38]) (W1 := fun _ => False) (W2 := fun l' => ∀ l, W0 (h + 2) l → W0 (h + 2) (l ++ 38 :: l')) (Brs.one (by decide) (by decide))
    (Brs.app g.brs (t.brs1 rfl) (fun l' z l w => by
      have := W0.tail1 t rfl (W0.and z _ (Nat.le_refl _) w)
      rw [List.append_assoc] at this
      exact this) fun l' z l w => by
      have := z _ (W0.and ⟨_, g.one1.one0⟩ _ (Nat.le_refl _) w)
      rw [List.append_assoc] at this
      exact this) (fun _ z => z.elim) fun l' z => z
  | _, _, _, _, _, .ors g t, e => nomatch e
theorem Tl.brs0 : ∀ {b : Bool} {h : Nat} {a : Cn} {r : List Nat} {c : Cn}, Tl b h a r c → b = false → Brs (fun l' => ∀ l, W0 (h + 1) l → W0 (h + 1) (l ++ l')) r
  | _, _, _, _, _, .nil, _ => fun p wt fs => ⟨[], by rw [List.append_nil]; rfl, fun q hq => nomatch hq⟩
  | _, h, _, _, _, .ors (m := m) (r := r) g t, _ => Brs.app (l := [124]) (W1 := fun _ => False) (W2 := fun l' => ∀ l, W0 (h + 1) l → W0 (h + 1) (l ++ 124 :: l')) (Brs.one (by decide) (by decide))
    (Brs.app g.brs (t.brs0 rfl) (fun l' z l w => by
      have := W0.tail0 t rfl (w.or z)
      rw [List.append_assoc] at this
      exact this) fun l' z l w => by
      have := z _ (w.or ⟨_, g.one0⟩)
      rw [List.append_assoc] at this
      exact this) (fun _ z => z.elim) fun l' z => z
  | _, _, _, _, _, .ands g t, e => nomatch e
end
/-! ### xs.append((ys.pop(), n)) -/
section
variable {T : Sto} {s : T.S} {ρ : DEnv} {R : PyData → T.S → Prop} {N : DEnv → T.S → Prop} {K : PySem.W.Frag} {i j m : Nat} {fs : List PyData} {ws : List Int} {x q : Int}
theorem ws_popApp (hi : ρ[i]? = some (some (.own fs))) (hj : ρ[j]? = some (some (.own ((ws ++ [x]).map PyData.int)))) (ij : i ≠ j) (jm : j ≠ m) (hm : ρ[m]? = some (some (.d (.int q)))) (hl : fs.length < 100000)
    (h : N ((ρ.set j (some (.own (ws.map PyData.int)))).set i (some (.own (fs ++ [.tuple [.int x, .int q]])))) s) :
    WS T (tDrop (tBM K "list" rAppend (tVar i) (tCons (tTup (tCons (tBM0 K "list" rPop (tVar j)) (tCons (tVar m) tNil))) tNil))) s ρ R N := fun A0 H0 B σ H c D r n => by
  obtain ⟨p, vs, h1, h2, h3, _⟩ := c.own hi
  obtain ⟨pj, us, k1, k2, k3, k4⟩ := c.own hj
  have eus := k3.of_ints
  subst eus
  have hjl : j < ρ.length := (List.getElem?_eq_some_iff.mp hj).1
  have c1 := k4 (ws.map V.int) (ws.map PyData.int) (DDs.ints ws)
  have hm1 : (ρ.set j (some (.own (ws.map PyData.int))))[m]? = some (some (.d (.int q))) := by rw [List.getElem?_set, if_neg jm]; exact hm
  have hi1 : (ρ.set j (some (.own (ws.map PyData.int))))[i]? = some (some (.own fs)) := by rw [List.getElem?_set, if_neg (Ne.symm ij)]; exact hi
  refine ⟨_, h1, Or.inl ⟨rfl, _, SqL.of h2⟩, _, k1, Or.inl ⟨rfl, _, SqL.of k2⟩, pj, _, .int x, rfl, rfl, k2, by simp, ?_⟩
  rw [show ((ws ++ [x]).map V.int).dropLast = ws.map V.int from by rw [List.map_append]; exact List.dropLast_concat]
  obtain ⟨v, m1, m2⟩ := c1.sl m _ hm1
  cases m2
  refine ⟨_, join_some m1, Nat.le_of_ble_eq_true rfl, fun t ht => ?_⟩
  have c2 := c1.grow (H' := upd (upd H pj (.lst (ws.map V.int))) t (.tup [.int x, .int q])) fun b o g => by rw [upd_ne (ne_of_none g ht)]; exact g
  obtain ⟨p2, vs2, g1, g2, g3, g4⟩ := c2.own hi1
  have ep : p2 = p := by rw [h1] at g1; cases g1; rfl
  subst ep
  have tB : ¬ B t := fun z => c1.dm t z ht
  refine ⟨p2, vs2, .ref t, rfl, rfl, g2, Nat.lt_of_lt_of_le (by rw [g3.len]; exact hl) (by decide), ?_⟩
  exact n B σ _ s _ h (g4 _ _ (g3.app (.cons (.tup (cut_of upd_same tB) (.cons (.int _) (.cons (.int _) .nil))) .nil)))
end
end J

namespace J
open PySem L2
/-! ### what is read: how deep, how many looks -/
mutual
theorem Rd.deep_le : ∀ {lv h : Nat} {l : List Nat} {c : Cn}, Rd lv h l c → c.deep ≤ h + c.pairs
  | _, _, _, _, .look h i hi => Nat.zero_le _
  | _, _, _, _, .nt (c := c) r => by
    have := r.deep_le
    show c.deep + 1 ≤ _ + 1 + c.pairs
    omega
  | _, _, _, _, .br r => by
    have := r.deep_le
    omega
  | _, _, _, _, .ands r t => by
    have := t.deep_le r.deep_le
    omega
  | _, _, _, _, .ors r t => by
    have := t.deep_le r.deep_le
    omega
theorem Tl.deep_le : ∀ {b : Bool} {h : Nat} {a : Cn} {r : List Nat} {c : Cn}, Tl b h a r c → a.deep ≤ h + a.pairs → c.deep ≤ h + c.pairs
  | _, _, _, _, _, .nil, e => e
  | _, _, _, _, _, .ands (a := a) (d := d) g t, e => t.deep_le (by
    have := g.deep_le
    show max a.deep d.deep + 1 ≤ _ + (a.pairs + d.pairs + 1)
    omega)
  | _, _, _, _, _, .ors (a := a) (d := d) g t, e => t.deep_le (by
    have := g.deep_le
    show max a.deep d.deep + 1 ≤ _ + (a.pairs + d.pairs + 1)
    omega)
end
/-- how many signs of a text stand between parts -/
def isOp (c : Nat) : Bool := c == 38 || c == 124
def ops (l : List Nat) : Nat := l.countP isOp
theorem ops_app (a b : List Nat) : ops (a ++ b) = ops a + ops b := List.countP_append ..
theorem ops_cons0 {c : Nat} (l : List Nat) (h : isOp c = false) : ops (c :: l) = ops l := List.countP_cons_of_neg (by rw [h]; decide)
theorem ops_cons1 {c : Nat} (l : List Nat) (h : isOp c = true) : ops (c :: l) = ops l + 1 := List.countP_cons_of_pos h
mutual
theorem Rd.pairs : ∀ {lv h : Nat} {l : List Nat} {c : Cn}, Rd lv h l c → c.pairs = ops l
  | _, _, _, _, .look h i hi => by
    rw [ops_cons0 [] (by unfold isOp; rw [Bool.or_eq_false_iff]; exact ⟨beq_eq_false_iff_ne.mpr (by omega), beq_eq_false_iff_ne.mpr (by omega)⟩)]
    rfl
  | _, _, _, _, .nt r => by rw [ops_cons0 _ rfl]; exact r.pairs
  | _, _, _, _, .br r => by rw [ops_cons0 _ rfl, ops_app, show ops [41] = 0 from rfl]; exact r.pairs
  | _, _, _, _, .ands r t => by rw [ops_app, t.pairs, r.pairs]
  | _, _, _, _, .ors r t => by rw [ops_app, t.pairs, r.pairs]
theorem Tl.pairs : ∀ {b : Bool} {h : Nat} {a : Cn} {r : List Nat} {c : Cn}, Tl b h a r c → c.pairs = a.pairs + ops r
  | _, _, _, _, _, .nil => rfl
  | _, _, _, _, _, .ands (a := a) (d := d) (c := c) (m := m) (r := r) g t => by
    have h1 := g.pairs
    have h2 : c.pairs = (a.pairs + d.pairs + 1) + ops r := t.pairs
    rw [ops_cons1 _ rfl, ops_app]
    omega
  | _, _, _, _, _, .ors (a := a) (d := d) (c := c) (m := m) (r := r) g t => by
    have h1 := g.pairs
    have h2 : c.pairs = (a.pairs + d.pairs + 1) + ops r := t.pairs
    rw [ops_cons1 _ rfl, ops_app]
    omega
end
mutual
theorem Rd.ok : ∀ {lv h : Nat} {l : List Nat} {c : Cn}, Rd lv h l c → c.ok
  | _, _, _, _, .look h i hi => ⟨by omega, by omega⟩
  | _, _, _, _, .nt r => r.ok
  | _, _, _, _, .br r => r.ok
  | _, _, _, _, .ands r t => t.ok r.ok
  | _, _, _, _, .ors r t => t.ok r.ok
theorem Tl.ok : ∀ {b : Bool} {h : Nat} {a : Cn} {r : List Nat} {c : Cn}, Tl b h a r c → a.ok → c.ok
  | _, _, _, _, _, .nil, e => e
  | _, _, _, _, _, .ands g t, e => t.ok ⟨e, g.ok⟩
  | _, _, _, _, _, .ors g t, e => t.ok ⟨e, g.ok⟩
end
theorem Cn.looks_is : ∀ c : Cn, c.looks = c.pairs + 1
  | .look _ => rfl
  | .nt c => c.looks_is
  | .pr _ x y => by
    have hx := x.looks_is
    have hy := y.looks_is
    show x.looks + y.looks = x.pairs + y.pairs + 1 + 1
    omega
/-! ### conditions are told apart -/
theorem eqv_t2 (w v : Str) (x y : PyData) : PyData.eqv (.tuple [.str w, x]) (.tuple [.str v, y]) = (w == v && PyData.eqv x y) := by
  show ((w == v) && (PyData.eqv x y && true)) = _
  rw [Bool.and_true]
theorem eqv_t3 (w v : Str) (x y x' y' : PyData) : PyData.eqv (.tuple [.str w, x, y]) (.tuple [.str v, x', y']) = (w == v && (PyData.eqv x x' && PyData.eqv y y')) := by
  show ((w == v) && (PyData.eqv x x' && (PyData.eqv y y' && true))) = _
  rw [Bool.and_true]
theorem eqv_t23 (w v : Str) (x y z : PyData) : PyData.eqv (.tuple [.str w, x]) (.tuple [.str v, y, z]) = false := by
  show ((w == v) && (PyData.eqv x y && false)) = _
  rw [Bool.and_false, Bool.and_false]
theorem eqv_t32 (w v : Str) (x y z : PyData) : PyData.eqv (.tuple [.str w, y, z]) (.tuple [.str v, x]) = false := by
  show ((w == v) && (PyData.eqv y x && false)) = _
  rw [Bool.and_false, Bool.and_false]
theorem and_tt {a b : Bool} (h : (a && b) = true) : a = true ∧ b = true := by cases a <;> cases b <;> first | exact ⟨rfl, rfl⟩ | cases h
theorem Cn.eqv_inj (c : Cn) : ∀ d : Cn, PyData.eqv c.D d.D = true → c = d := by
  induction c with
  | look i =>
    intro d h
    cases d with
    | look j =>
      rw [show (Cn.look i).D = .tuple [.str wLook, .int i] from rfl, show (Cn.look j).D = .tuple [.str wLook, .int j] from rfl, eqv_t2] at h
      have := eq_of_beq (show (i == j) = true from (and_tt h).2)
      rw [this]
    | nt d =>
      rw [show (Cn.look i).D = .tuple [.str wLook, .int i] from rfl, show (Cn.nt d).D = .tuple [.str wNot, d.D] from rfl, eqv_t2, ne_ln] at h
      cases h
    | pr b x y =>
      rw [show (Cn.look i).D = .tuple [.str wLook, .int i] from rfl, D_pr, eqv_t23] at h
      cases h
  | nt c ih =>
    intro d h
    cases d with
    | look j =>
      rw [show (Cn.look j).D = .tuple [.str wLook, .int j] from rfl, show (Cn.nt c).D = .tuple [.str wNot, c.D] from rfl, eqv_t2, ne_nl] at h
      cases h
    | nt d =>
      rw [show (Cn.nt c).D = .tuple [.str wNot, c.D] from rfl, show (Cn.nt d).D = .tuple [.str wNot, d.D] from rfl, eqv_t2] at h
      rw [ih d (and_tt h).2]
    | pr b x y =>
      rw [show (Cn.nt c).D = .tuple [.str wNot, c.D] from rfl, D_pr, eqv_t23] at h
      cases h
  | pr b x y ihx ihy =>
    intro d h
    cases d with
    | look j =>
      rw [show (Cn.look j).D = .tuple [.str wLook, .int j] from rfl, D_pr, eqv_t32] at h
      cases h
    | nt d =>
      rw [show (Cn.nt d).D = .tuple [.str wNot, d.D] from rfl, D_pr, eqv_t32] at h
      cases h
    | pr b' x' y' =>
      rw [D_pr, D_pr, eqv_t3] at h
      obtain ⟨h1, h2⟩ := and_tt h
      obtain ⟨h3, h4⟩ := and_tt h2
      rw [ihx x' h3, ihy y' h4]
      have hb : b = b' := by
        cases b <;> cases b' <;> first | rfl | (exact absurd h1 (by decide +kernel))
      rw [hb]
theorem Cn.eqv_ne {c d : Cn} (h : c ≠ d) : PyData.eqv c.D d.D = false := by
  rw [Bool.eq_false_iff]
  exact fun z => h (Cn.eqv_inj c d z)
/-! ### text.replace("a", "(a)") -/
def repl (c : Nat) (z : List Nat) (l : List Nat) : List Nat := l.flatMap fun k => if k = c then z else [k]
theorem repl_app (c : Nat) (z a b : List Nat) : repl c z (a ++ b) = repl c z a ++ repl c z b := List.flatMap_append ..
theorem repl_cons (c : Nat) (z : List Nat) (k : Nat) (b : List Nat) : repl c z (k :: b) = (if k = c then z else [k]) ++ repl c z b := List.flatMap_cons ..
theorem repl_free (c : Nat) (z : List Nat) : ∀ l : List Nat, c ∉ l → repl c z l = l
  | [], _ => rfl
  | k :: r, h => by
    have hk : ¬ k = c := fun e => h (e ▸ List.mem_cons_self ..)
    rw [repl_cons, if_neg hk, repl_free c z r fun m => h (List.mem_cons_of_mem _ m)]
    rfl
theorem repl_join (c : Nat) (z : Str) : ∀ parts : List Str, (∀ p ∈ parts, c ∉ p.cps.toList) → repl c z.cps.toList (Str.join ⟨#[c]⟩ parts).cps.toList = (Str.join z parts).cps.toList
  | [], _ => rfl
  | [p], h => repl_free c _ _ (h p (List.mem_singleton.mpr rfl))
  | p :: q :: r, h => by
    have ih := repl_join c z (q :: r) fun a ha => h a (List.mem_cons_of_mem _ ha)
    show repl c z.cps.toList (p ++ ⟨#[c]⟩ ++ Str.join ⟨#[c]⟩ (q :: r)).cps.toList = (p ++ z ++ Str.join z (q :: r)).cps.toList
    simp only [Str.cps_append, Array.toList_append]
    rw [repl_app, repl_app, ih, repl_free c _ _ (h p (List.mem_cons_self ..))]
    show p.cps.toList ++ repl c z.cps.toList [c] ++ _ = _
    rw [repl_cons, if_pos rfl]
    simp [repl]
theorem replace_is (x z : Str) (c : Nat) : Txt.replace x ⟨#[c]⟩ z = tx (repl c z.cps.toList x.cps.toList) := by
  rw [tx_of (Txt.replace x ⟨#[c]⟩ z)]
  congr 1
  rw [StrLaws.replace_one, ← repl_join c z _ (StrLaws.split_free x c), StrLaws.join_split]
abbrev brA : List Nat := [40, 97, 41]
theorem replace_a (l : List Nat) : Txt.replace (tx l) (Str.ofString "a") (Str.ofString "(a)") = tx (repl 97 brA l) := by
  rw [show Str.ofString "a" = (⟨#[97]⟩ : Str) from by decide +kernel, show Str.ofString "(a)" = tx brA from by decide +kernel, replace_is]
  rfl
theorem repl_len (l : List Nat) : (repl 97 brA l).length ≤ 3 * l.length := by
  induction l with
  | nil => exact Nat.le_refl 0
  | cons k r ih =>
    rw [repl_cons, List.length_append, List.length_cons]
    by_cases h : k = 97
    · rw [if_pos h]; show 3 + _ ≤ _; omega
    · rw [if_neg h]; show 1 + _ ≤ _; omega
mutual
theorem Rd.repl : ∀ {lv h : Nat} {l : List Nat} {c : Cn}, Rd lv h l c → Rd lv (h + 3) (J.repl 97 brA l) c
  | _, _, _, _, .look h i hi => by
    by_cases e : i = 0
    · subst e
      exact (Rd.br (Rd.look h 0 (by decide)).one1.one0).le (by omega)
    · rw [repl_cons, if_neg (by omega)]
      exact (Rd.look h i hi).le (by omega)
  | _, _, _, _, .nt r => by
    rw [repl_cons, if_neg (by decide)]
    exact (Rd.nt r.repl).le (by omega)
  | _, _, _, _, .br r => by
    rw [repl_cons, if_neg (by decide), repl_app]
    exact (Rd.br r.repl).le (by omega)
  | _, _, _, _, .ands r t => by
    rw [repl_app]
    exact (Rd.ands r.repl t.repl).le (by omega)
  | _, _, _, _, .ors r t => by
    rw [repl_app]
    exact (Rd.ors r.repl t.repl).le (by omega)
theorem Tl.repl : ∀ {b : Bool} {h : Nat} {a : Cn} {r : List Nat} {c : Cn}, Tl b h a r c → Tl b (h + 3) a (J.repl 97 brA r) c
  | _, _, _, _, _, .nil => .nil
  | _, _, _, _, _, .ands g t => by
    rw [repl_cons, if_neg (by decide), repl_app]
    have := Tl.ands g.repl t.repl
    exact this
  | _, _, _, _, _, .ors g t => by
    rw [repl_cons, if_neg (by decide), repl_app]
    have := Tl.ors g.repl t.repl
    exact this
end
/-! the rule: a token is out behind a comparison with a written number -/
def PTG (X : Cx) (e : Expr) (t : TT) : Prop :=
  ∀ (pins : List (Addr × Obj)) (s : Shared) (σ : L2.St) (H : Hp) (Q : Bool → Hp → Prop), Inv X pins σ H s → t σ H Q → wpAny (model X.prog X.w) X.A (isTrue e X.env (eval e X.env)) (fun d s1 => 1 ≤ s1.toks ∧ ∃ H1, Inv X pins σ H1 s1 ∧ Q d H1) X.xe s
section
variable {X : Cx} {a c o : Expr} {ta : TE} {tc : TT} {t u : TS} {to : TE}
theorem wpA {X : Cx} {α : Type} {m : Sem α} {Q : α → Shared → Prop} {s : Shared} (h : wpAny (model X.prog X.w) X.A m Q X.xe s) (R : α → Shared → Prop) (k : ∀ v s1, s.toks ≤ s1.toks → Q v s1 → R v s1) : wpAny (model X.prog X.w) X.A m R X.xe s :=
  wpAny_mono (PySem.wpAny_toks h) (fun v s1 q => k v s1 q.1 q.2) fun _ _ z => z.2
theorem ptg_cmp {op : CmpOp} {r : R2} {i : Int} {j : Nat} {cp pos : Pos} (ho : OpR X (compareOp op) r) (ha : PE X a ta) (hm : behindInMarks op (.Constant (.int i) j cp) = false) : PTG X (.Compare a [op] [.Constant (.int i) j cp] pos) (tTest (tOp r ta (tC (.int i)))) := by
  intro pins s σ H Q I h
  refine wpAny_isTrue_Compare1 (thn (ha.run pins s σ H _ I h) fun v s1 ⟨x, H1, I1, r1, q1⟩ => ?_) hm
  refine wpAny_Constant_int ?_
  refine wpA (ho pins { s1 with toks := s1.toks + 1 } σ H1 x (.int i) v (.int i s1.toks) _ (I1.tok _) r1 ⟨_, rfl⟩ q1) _ fun d s3 hk ⟨z, H3, I3, r3, k, e, q3⟩ => ?_
  subst e
  cases r3
  have hk : s1.toks + 1 ≤ s3.toks := hk
  exact wpAny_truthy_bool ⟨by omega, H3, I3, q3⟩
theorem pst_set {i : Nat} {x : Str} {e : Expr} {te : TE} {pos' pos : Pos} (hN : X.N.Nodup) (hi : X.N[i]? = some x) (hx : Loc X.env.scope x) (he : PET X e te) (hs : swapsWith e (some (.Name x pos')) pos.line X.env = pure false := by rfl)
    (hf : X.fn x = true ∨ X.env.scope.names.lookup x = some .local := by first | exact .inl rfl | exact .inr rfl | assumption) : PST X (.Assign [.Name x pos'] e pos) (tAsg te (gName i)) := by
  intro pins s σ H D h0 I h
  refine wpAny_Assign_Name (thn (he pins s σ H _ h0 I h) fun v s1 ⟨y, H1, I1, r1, q1⟩ => ?_) hs
  exact store_ok I1 hN hi hx r1 (fun s2 I2 => ⟨_, H1, I2, q1⟩) hf
theorem ps_ifT {aa b : List Stmt} {pos : Pos} (hc : PTG X c tc) (ha : PSsT X aa t) (hb : PSs X b u) : PS X (.If c aa b pos) (tIfS tc t u) := by
  refine ⟨fun pins s σ H D I h => ?_⟩
  refine wpAny_If (thn (hc pins s σ H _ I h) fun d s1 ⟨hk, H1, I1, q1⟩ => ?_)
  cases d with
  | true => exact ha pins s1 σ H1 D hk I1 q1
  | false => exact hb.run pins s1 σ H1 D I1 q1
end
theorem wp_replA {T : Sto} {s : T.S} {ρ : DEnv} {Φ : PyData → T.S → Prop} {to : TE} (h : WE T to s ρ fun x s1 => ∃ l : List Nat, x = .str (tx l) ∧ l.length ≤ 100000 ∧ Φ (.str (tx (repl 97 brA l))) s1) : WE T (CwR.tReplC to (Str.ofString "a") (Str.ofString "(a)")) s ρ Φ := fun A0 H0 B σ H c Q k =>
  h A0 H0 B σ H c _ fun v H1 x s1 ⟨l, ex, hl, q⟩ e1 a1 d1 => by
    subst ex
    cases d1
    refine ⟨tx l, rfl, ?_, ?_⟩
    · rw [tx_len, show (Str.ofString "(a)").length = 3 from by decide +kernel]; omega
    · rw [replace_a]
      exact k _ H1 _ s1 q e1 a1 (.str _)
end J

namespace J
open PySem L2
/-! ### isinstance(x, (list, tuple)), raw -/
def isSeq : PyData → Bool
  | .list _ => true
  | .tuple _ => true
  | _ => false
theorem kit_seq {K : PySem.W.Frag} : ∀ d : PyData, (∀ k, d ≠ .dict k) → PySem.W.kitAny K (.type (tyD d)) [.type "list", .type "tuple"] = some (isSeq d)
  | .none, _ => kitAny_cons (kit_ty (show kitB "NoneType" "list" = some false from by decide +kernel)) (fun _ => kitAny_cons (kit_ty (show kitB "NoneType" "tuple" = some false from by decide +kernel)) (fun _ => rfl) fun z => nomatch z) fun z => nomatch z
  | .bool _, _ => kitAny_cons (kit_ty (show kitB "bool" "list" = some false from by decide +kernel)) (fun _ => kitAny_cons (kit_ty (show kitB "bool" "tuple" = some false from by decide +kernel)) (fun _ => rfl) fun z => nomatch z) fun z => nomatch z
  | .int _, _ => kitAny_cons (kit_ty (show kitB "int" "list" = some false from by decide +kernel)) (fun _ => kitAny_cons (kit_ty (show kitB "int" "tuple" = some false from by decide +kernel)) (fun _ => rfl) fun z => nomatch z) fun z => nomatch z
  | .str _, _ => kitAny_cons (kit_ty (show kitB "str" "list" = some false from by decide +kernel)) (fun _ => kitAny_cons (kit_ty (show kitB "str" "tuple" = some false from by decide +kernel)) (fun _ => rfl) fun z => nomatch z) fun z => nomatch z
  | .list _, _ => kitAny_cons (kit_ty (show kitB "list" "list" = some true from by decide +kernel)) (fun z => nomatch z) fun _ => rfl
  | .tuple _, _ => kitAny_cons (kit_ty (show kitB "tuple" "list" = some false from by decide +kernel)) (fun _ => kitAny_cons (kit_ty (show kitB "tuple" "tuple" = some true from by decide +kernel)) (fun z => nomatch z) fun _ => rfl) fun z => nomatch z
  | .dict k, h => absurd rfl (h k)
section
variable {K : PySem.W.Frag} {i : Nat} {σ : L2.St} {H : Hp} {v : V} {t : Value} {b : Bool} {Q : Bool → Hp → Prop}
/-- isinstance(x, (list, tuple)) as a test; t is x's type -/
theorem raw_seq (hσ : σ[i]? = some (some v)) (ty : ∀ tp, H tp = none → TyX K (upd H tp (.tup [.ty "list", .ty "tuple"])) v t) (hk : PySem.W.kitAny K t [.type "list", .type "tuple"] = some b) (q : ∀ tp, H tp = none → Q b (upd H tp (.tup [.ty "list", .ty "tuple"]))) :
    tB (tCB (rIsiT K) (tCons (tVar i) (tCons (tTup (tCons (tC (.ty "list")) (tCons (tC (.ty "tuple")) tNil))) tNil))) σ H Q :=
  ⟨v, hσ, Nat.le_of_ble_eq_true rfl, fun tp hp => ⟨v, tp, [.ty "list", .ty "tuple"], t, [.type "list", .type "tuple"], b, rfl, upd_same, .cons (.ty _) (.cons (.ty _) .nil), ty tp hp, hk, b, rfl, q tp hp⟩⟩
theorem raw_seqD {d : PyData} (hσ : σ[i]? = some (some v)) (dd : DD H v d) (q : ∀ tp, H tp = none → Q (isSeq d) (upd H tp (.tup [.ty "list", .ty "tuple"]))) :
    tB (tCB (rIsiT K) (tCons (tVar i) (tCons (tTup (tCons (tC (.ty "list")) (tCons (tC (.ty "tuple")) tNil))) tNil))) σ H Q :=
  raw_seq hσ (fun tp hp => TyX.mono (same_new hp) dd) (kit_seq d fun k e => by subst e; cases dd) q
theorem raw_isi {n : String} (hσ : σ[i]? = some (some v)) (ty : TyX K H v t) (hk : PySem.W.kitOne K t (.type n) = some b) (q : Q b H) : tB (tCB (rIsi K) (tCons (tVar i) (tCons (tC (.ty n)) tNil))) σ H Q :=
  ⟨v, hσ, v, .ty n, t, .type n, b, rfl, .ty n, ty, hk, b, rfl, q⟩
end
theorem Sc.dd {d : PyData} {v : V} (s : Sc d v) (H : Hp) : DD H v d := by
  cases s with
  | non => exact .non
  | bl b => exact .bl b
  | int i => exact .int i
  | str x => exact .str x
theorem Sc.notSeq {d : PyData} {v : V} (s : Sc d v) : isSeq d = false := by cases s <;> rfl
theorem Sc.notList {d : PyData} {v : V} (s : Sc d v) : kitB (tyD d) "list" = some false := by cases s <;> (simp only [tyD]; decide +kernel)
/-! ### a copy in lists of its own -/
def exist (H : Hp) : Addr → Prop := fun a => H a ≠ none
def spKept (n : Nat) : Sp := fun vs H Q _ => ∃ (v : V) (d : PyData), vs = [v] ∧ DD H v d ∧ nice d = true ∧ d.depth < n ∧ ∀ w H', Same H H' → DD (cut (exist H) H') w d → Q w H'
theorem nice_sub {ds : List PyData} {d : PyData} (h : nice d = true) (e : d = .list ds ∨ d = .tuple ds) : ds.length ≤ 100000 ∧ niceAll ds = true := by
  rcases e with rfl | rfl <;> simpa [nice] using h
/-! ### lists that may be changed, to any depth -/
mutual
inductive SpV (L : Addr → Option Nat) (H : Hp) : Nat → Nat → V → Prop
  | flat {n : Nat} {v : V} {d : PyData} : Sc d v → SpV L H n 0 v
  | tup {n w : Nat} {a : Addr} {xs : List V} : H a = some (.tup xs) → SpVs L H n w xs → SpV L H (n + 1) w (.ref a)
  | lst {n m w : Nat} {a : Addr} {xs : List V} : H a = some (.lst xs) → L a = some m → m ≤ n → SpVs L H m w xs → SpV L H (n + 1) (w + 1) (.ref a)
inductive SpVs (L : Addr → Option Nat) (H : Hp) : Nat → Nat → List V → Prop
  | nil {n : Nat} : SpVs L H n 0 []
  | cons {n w w' : Nat} {v : V} {vs : List V} : SpV L H n w v → SpVs L H n w' vs → SpVs L H n (w + w') (v :: vs)
end
section
variable {L : Addr → Option Nat} {H H' : Hp}
mutual
theorem SpV.le {n k w : Nat} {v : V} (h : SpV L H n w v) (hk : n ≤ k) : SpV L H k w v :=
  match n, w, v, h, k, hk with
  | _, _, _, .flat s, _, _ => .flat s
  | n + 1, _, _, .tup e s, k + 1, hk => .tup e (s.le (by omega))
  | n + 1, _, _, .lst e l m s, k + 1, hk => .lst e l (by omega) s
theorem SpVs.le {n k w : Nat} {vs : List V} (h : SpVs L H n w vs) (hk : n ≤ k) : SpVs L H k w vs :=
  match n, w, vs, h, hk with
  | _, _, _, .nil, _ => .nil
  | _, _, _, .cons a b, hk => .cons (a.le hk) (b.le hk)
end
theorem SpVs.app {n w w' : Nat} : ∀ {vs us : List V}, SpVs L H n w vs → SpVs L H n w' us → SpVs L H n (w + w') (vs ++ us)
  | [], us, h, k => by cases h; rw [Nat.zero_add]; exact k
  | v :: vs, us, h, k => by
    cases h with
    | cons a b => rw [Nat.add_assoc]; exact .cons a (b.app k)
theorem SpVs.zeros {n : Nat} : ∀ k : Nat, SpVs L H n 0 (List.replicate k (.int 0))
  | 0 => .nil
  | k + 1 => .cons (.flat (.int 0)) (SpVs.zeros k)
mutual
theorem SpV.mono (ht : ∀ a xs, H a = some (.tup xs) → H' a = some (.tup xs)) (hl : ∀ a m xs, L a = some m → H a = some (.lst xs) → ∃ k, H' a = some (.lst (xs ++ List.replicate k (.int 0)))) {n w : Nat} {v : V} (h : SpV L H n w v) : SpV L H' n w v :=
  match n, w, v, h with
  | _, _, _, .flat s => .flat s
  | _, _, _, .tup e s => .tup (ht _ _ e) (s.mono ht hl)
  | _, _, _, .lst e l m s => by
    obtain ⟨k, e'⟩ := hl _ _ _ l e
    exact .lst e' l m ((s.mono ht hl).app (SpVs.zeros k))
theorem SpVs.mono (ht : ∀ a xs, H a = some (.tup xs) → H' a = some (.tup xs)) (hl : ∀ a m xs, L a = some m → H a = some (.lst xs) → ∃ k, H' a = some (.lst (xs ++ List.replicate k (.int 0)))) {n w : Nat} {vs : List V} (h : SpVs L H n w vs) : SpVs L H' n w vs :=
  match n, w, vs, h with
  | _, _, _, .nil => .nil
  | _, _, _, .cons a b => .cons (a.mono ht hl) (b.mono ht hl)
end
end
/-- only lists of less rank than n are changed: ints, at most k, are put to their ends -/
def Aft (L : Addr → Option Nat) (n k : Nat) (H H' : Hp) : Prop := ∀ a o, H a = some o → H' a = some o ∨ ∃ m xs j, L a = some m ∧ m < n ∧ o = .lst xs ∧ j ≤ k ∧ H' a = some (.lst (xs ++ List.replicate j (.int 0)))
section
variable {L : Addr → Option Nat} {H H1 H' : Hp}
theorem Aft.of {n k : Nat} (e : Same H H') : Aft L n k H H' := fun a o q => .inl (e a o q)
theorem Aft.le {n n' k k' : Nat} (h : Aft L n k H H') (hn : n ≤ n') (hk : k ≤ k') : Aft L n' k' H H' := fun a o q => by
  rcases h a o q with z | ⟨m, xs, j, h1, h2, h3, h4, h5⟩
  · exact .inl z
  · exact .inr ⟨m, xs, j, h1, by omega, h3, by omega, h5⟩
theorem Aft.trans {n k k' : Nat} (h : Aft L n k H H1) (h' : Aft L n k' H1 H') : Aft L n (k + k') H H' := fun a o q => by
  rcases h a o q with z | ⟨m, xs, j, h1, h2, h3, h4, h5⟩
  · rcases h' a o z with z | ⟨m, xs, j, h1, h2, h3, h4, h5⟩
    · exact .inl z
    · exact .inr ⟨m, xs, j, h1, h2, h3, by omega, h5⟩
  · rcases h' a _ h5 with z | ⟨m', ys, j', g1, g2, g3, g4, g5⟩
    · exact .inr ⟨m, xs, j, h1, h2, h3, by omega, z⟩
    · cases g3
      refine .inr ⟨m, xs, j + j', h1, h2, h3, by omega, ?_⟩
      rw [g5, List.append_assoc, List.replicate_append_replicate]
theorem Aft.sp {n k m w : Nat} {v : V} (h : Aft L n k H H') (s : SpV L H m w v) : SpV L H' m w v := s.mono (fun a xs e => by
    rcases h a _ e with z | ⟨_, _, _, _, _, z, _⟩
    · exact z
    · cases z) fun a m xs hl e => by
    rcases h a _ e with z | ⟨_, ys, j, _, _, z, _, y⟩
    · exact ⟨0, by rw [List.replicate_zero, List.append_nil]; exact z⟩
    · cases z; exact ⟨j, y⟩
theorem Aft.sps {n k m w : Nat} {v : List V} (h : Aft L n k H H') (s : SpVs L H m w v) : SpVs L H' m w v := s.mono (fun a xs e => by
    rcases h a _ e with z | ⟨_, _, _, _, _, z, _⟩
    · exact z
    · cases z) fun a m xs hl e => by
    rcases h a _ e with z | ⟨_, ys, j, _, _, z, _, y⟩
    · exact ⟨0, by rw [List.replicate_zero, List.append_nil]; exact z⟩
    · cases z; exact ⟨j, y⟩
end
/-- all ranked addresses are lists that may still grow by w -/
def Rm (L : Addr → Option Nat) (H : Hp) (w : Nat) : Prop := ∀ a m, L a = some m → ∃ xs, H a = some (.lst xs) ∧ xs.length + w ≤ 100000
theorem Rm.aft {L : Addr → Option Nat} {H H' : Hp} {n k w : Nat} (r : Rm L H (k + w)) (h : Aft L n k H H') : Rm L H' w := fun a m hl => by
  obtain ⟨xs, e, hx⟩ := r a m hl
  rcases h a _ e with z | ⟨_, ys, j, _, _, z, hj, y⟩
  · exact ⟨xs, z, by omega⟩
  · cases z
    exact ⟨_, y, by rw [List.length_append, List.length_replicate]; omega⟩
theorem Rm.le {L : Addr → Option Nat} {H : Hp} {w w' : Nat} (r : Rm L H w) (h : w' ≤ w) : Rm L H w' := fun a m hl => by
  obtain ⟨xs, e, hx⟩ := r a m hl
  exact ⟨xs, e, by omega⟩
def spSpoil (n : Nat) : Sp := fun vs H Q _ => ∃ (L : Addr → Option Nat) (v : V) (m w : Nat), vs = [v] ∧ SpV L H m w v ∧ m < n ∧ Rm L H w ∧ ∀ H', Aft L m w H H' → Q .non H'
theorem tyx_of {K : PySem.W.Frag} {L : Addr → Option Nat} {H : Hp} {m w : Nat} {v : V} (s : SpV L H m w v) : ∃ d : PyData, (∀ k, d ≠ .dict k) ∧ TyX K H v (.type (tyD d)) := by
  cases s with
  | flat s => cases s with
    | non => exact ⟨.none, (fun k z => nomatch z), .base .non⟩
    | bl b => exact ⟨.bool b, (fun k z => nomatch z), .base (.bl b)⟩
    | int i => exact ⟨.int i, (fun k z => nomatch z), .base (.int i)⟩
    | str x => exact ⟨.str x, (fun k z => nomatch z), .base (.str x)⟩
  | tup e _ => exact ⟨.tuple [], (fun k z => nomatch z), .base (.tup e)⟩
  | lst e _ _ _ => exact ⟨.list [], (fun k z => nomatch z), .base (.lst e)⟩
end J

namespace J
open PySem L2
/-! ### what is read at a value is one thing -/
mutual
theorem DD.fn {G : Hp} : ∀ (d e : PyData) (v : V), DD G v d → DD G v e → d = e
  | .none, e, v, h, k => by cases h; cases k; rfl
  | .bool b, e, v, h, k => by cases h; cases k; rfl
  | .int i, e, v, h, k => by cases h; cases k; rfl
  | .str x, e, v, h, k => by cases h; cases k; rfl
  | .list ds, e, v, h, k => by
    cases h with
    | lst ha hs =>
      cases k with
      | lst ha' hs' => rw [ha] at ha'; cases ha'; rw [DDs.fn ds _ _ hs hs']
      | tup ha' hs' => rw [ha] at ha'; cases ha'
  | .tuple ds, e, v, h, k => by
    cases h with
    | tup ha hs =>
      cases k with
      | lst ha' hs' => rw [ha] at ha'; cases ha'
      | tup ha' hs' => rw [ha] at ha'; cases ha'; rw [DDs.fn ds _ _ hs hs']
  | .dict _, e, v, h, k => by cases h
theorem DDs.fn {G : Hp} : ∀ (ds es : List PyData) (vs : List V), DDs G vs ds → DDs G vs es → ds = es
  | [], es, vs, h, k => by cases h; cases k; rfl
  | d :: ds, es, vs, h, k => by
    cases h with
    | cons h1 h2 =>
      cases k with
      | cons k1 k2 => rw [DD.fn d _ _ h1 k1, DDs.fn ds _ _ h2 k2]
end
mutual
def wgt : PyData → Nat
  | .list ds => wgts ds + 1
  | .tuple ds => wgts ds
  | _ => 0
def wgts : List PyData → Nat
  | [] => 0
  | d :: ds => wgt d + wgts ds
end
mutual
def lenB (W : Nat) : PyData → Prop
  | .list ds => ds.length + W ≤ 100000 ∧ lenBs W ds
  | .tuple ds => lenBs W ds
  | _ => True
def lenBs (W : Nat) : List PyData → Prop
  | [] => True
  | d :: ds => lenB W d ∧ lenBs W ds
end
mutual
theorem lenB_le {W W' : Nat} (h : W' ≤ 1000) (hW : W = 1000) : ∀ d : PyData, lenB W d → lenB W' d
  | .none, _ => trivial
  | .bool _, _ => trivial
  | .int _, _ => trivial
  | .str _, _ => trivial
  | .list ds, hd => by
    have hd' : ds.length + W ≤ 100000 ∧ lenBs W ds := by simpa [lenB] using hd
    have := lenBs_le h hW ds hd'.2
    have h1 := hd'.1
    simp only [lenB]
    exact ⟨by omega, this⟩
  | .tuple ds, hd => by
    have := lenBs_le h hW ds (by simpa [lenB] using hd)
    simpa [lenB] using this
  | .dict _, _ => trivial
theorem lenBs_le {W W' : Nat} (h : W' ≤ 1000) (hW : W = 1000) : ∀ ds : List PyData, lenBs W ds → lenBs W' ds
  | [], _ => trivial
  | d :: ds, hd => by
    have hd' : lenB W d ∧ lenBs W ds := by simpa [lenBs] using hd
    simp only [lenBs]
    exact ⟨lenB_le h hW d hd'.1, lenBs_le h hW ds hd'.2⟩
end
open Classical in
noncomputable def rank (G : Hp) (W : Nat) : Addr → Option Nat := fun a => if h : ∃ ds : List PyData, DD G (.ref a) (.list ds) ∧ ds.length + W ≤ 100000 then some (PyData.depthAll h.choose) else none
theorem rank_is {G : Hp} {W : Nat} {a : Addr} {ds : List PyData} (h : DD G (.ref a) (.list ds)) (hl : ds.length + W ≤ 100000) : rank G W a = some (PyData.depthAll ds) := by
  have hh : ∃ ds : List PyData, DD G (.ref a) (.list ds) ∧ ds.length + W ≤ 100000 := ⟨ds, h, hl⟩
  unfold rank
  rw [dif_pos hh]
  have := DD.fn _ _ _ hh.choose_spec.1 h
  injection this with this
  rw [this]
theorem rank_of {G : Hp} {W : Nat} {a : Addr} {m : Nat} (h : rank G W a = some m) : ∃ ds : List PyData, DD G (.ref a) (.list ds) ∧ ds.length + W ≤ 100000 := by
  unfold rank at h
  by_cases hh : ∃ ds : List PyData, DD G (.ref a) (.list ds) ∧ ds.length + W ≤ 100000
  · exact hh
  · rw [dif_neg hh] at h; cases h
theorem depthAll_cons (d : PyData) (ds : List PyData) : PyData.depthAll (d :: ds) = max d.depth (PyData.depthAll ds) := by simp [PyData.depthAll]
mutual
theorem SpV.of_dd {G H : Hp} {W : Nat} (e : Same G H) : ∀ (d : PyData) (v : V), DD G v d → lenB W d → SpV (rank G W) H d.depth (wgt d) v
  | .none, v, h, _ => by cases h; exact .flat .non
  | .bool b, v, h, _ => by cases h; exact .flat (.bl b)
  | .int i, v, h, _ => by cases h; exact .flat (.int i)
  | .str x, v, h, _ => by cases h; exact .flat (.str x)
  | .list ds, v, h, hl => by
    have h' := h
    cases h with
    | lst ha hs =>
      rw [depth_list]
      have hl' : ds.length + W ≤ 100000 ∧ lenBs W ds := by simpa [lenB] using hl
      show SpV _ _ _ (wgts ds + 1) _
      exact .lst (e _ _ ha) (rank_is h' hl'.1) (Nat.le_refl _) (SpVs.of_dd e ds _ hs hl'.2)
  | .tuple ds, v, h, hl => by
    cases h with
    | tup ha hs =>
      rw [depth_tuple]
      exact .tup (e _ _ ha) (SpVs.of_dd e ds _ hs (by simpa [lenB] using hl))
  | .dict _, v, h, _ => by cases h
theorem SpVs.of_dd {G H : Hp} {W : Nat} (e : Same G H) : ∀ (ds : List PyData) (vs : List V), DDs G vs ds → lenBs W ds → SpVs (rank G W) H (PyData.depthAll ds) (wgts ds) vs
  | [], vs, h, _ => by cases h; exact .nil
  | d :: ds, vs, h, hl => by
    have hl' : lenB W d ∧ lenBs W ds := by simpa [lenBs] using hl
    cases h with
    | cons h1 h2 =>
      rw [depthAll_cons]
      exact .cons ((SpV.of_dd e d _ h1 hl'.1).le (Nat.le_max_left _ _)) ((SpVs.of_dd e ds _ h2 hl'.2).le (Nat.le_max_right _ _))
end
/-- a value whose lists lie in U and may be changed -/
def TK (U : Addr → Prop) (H : Hp) (v : V) : Prop := ∃ L m w, SpV L H m w v ∧ m < 40 ∧ Rm L H w ∧ ∀ a m, L a = some m → U a
theorem TK.of {X : Addr → Prop} {H : Hp} {v : V} {d : PyData} (dd : DD (cut X H) v d) (hd : d.depth < 40) (hw : lenB (wgt d) d) : TK (fun a => ¬ X a ∧ ∃ xs, H a = some (.lst xs)) H v := by
  refine ⟨rank (cut X H) (wgt d), d.depth, wgt d, SpV.of_dd cut_same d v dd hw, hd, fun a m h => ?_, fun a m h => ?_⟩
  · obtain ⟨ds, h1, h2⟩ := rank_of h
    cases h1 with
    | @lst _ xs _ ha hs => exact ⟨xs, (cut_get ha).1, by rw [hs.len]; exact h2⟩
  · obtain ⟨ds, h1, h2⟩ := rank_of h
    cases h1 with
    | @lst _ xs _ ha hs => exact ⟨(cut_get ha).2, xs, (cut_get ha).1⟩
theorem TK.keep {U : Addr → Prop} {H H' : Hp} {v : V} (t : TK U H v) (e : ∀ a xs, H a = some (.tup xs) → H' a = some (.tup xs)) (e' : ∀ a xs, U a → H a = some (.lst xs) → H' a = some (.lst xs)) : TK U H' v := by
  obtain ⟨L, m, w, h1, h2, h3, h4⟩ := t
  refine ⟨L, m, w, h1.mono e fun a m xs hl q => ⟨0, by rw [List.replicate_zero, List.append_nil]; exact e' a xs (h4 a m hl) q⟩, h2, fun a m hl => ?_, h4⟩
  obtain ⟨xs, q1, q2⟩ := h3 a m hl
  exact ⟨xs, e' a xs (h4 a m hl) q1, q2⟩
theorem TK.le {U U' : Addr → Prop} {H : Hp} {v : V} (t : TK U H v) (h : ∀ a, U a → U' a) : TK U' H v := by
  obtain ⟨L, m, w, h1, h2, h3, h4⟩ := t
  exact ⟨L, m, w, h1, h2, h3, fun a m q => h a (h4 a m q)⟩
/-- a store without tuples -/
def NoTup (T : Sto) : Prop := ∀ s H a xs, T.At s H → T.F a → H a ≠ some (.tup xs)
theorem noTup_bx (b l : Addr) : NoTup (bxS b l) := fun s H a xs h f e => by
  obtain ⟨ns, z, h1, h2⟩ := (show BoxAt b l H from h)
  rcases (show a = b ∨ a = l from f) with rfl | rfl
  · rw [h1] at e; cases e
  · rw [h2] at e; cases e
section
variable {T : Sto} {A0 : Addr → Prop} {H0 : Hp} {B : Addr → Prop} {σ : L2.St} {H H' : Hp} {s s' : T.S} {ρ : DEnv} {ok : Nat → Prop} {p : Addr} {vs : List V} {U : Nat → Addr → Prop}
/-- a list at p of values whose lists may be changed -/
structure Hold (T : Sto) (A0 : Addr → Prop) (H0 : Hp) (B : Addr → Prop) (σ : L2.St) (H : Hp) (s : T.S) (ρ : DEnv) (ok : Nat → Prop) (p : Addr) (vs : List V) (U : Nat → Addr → Prop) : Prop where
  c : Cxt T A0 H0 B σ H s ρ
  nt : NoTup T
  no : ∀ (i : Nat) xs, ρ[i]? ≠ some (some (.own xs))
  hp : H p = some (.lst vs)
  pB : B p
  pF : ¬ T.F p
  p0 : H0 p = none
  tk : ∀ i v, ok i → vs[i]? = some v → TK (U i) H v
  uB : ∀ i a, U i a → B a ∧ ¬ T.F a ∧ H0 a = none ∧ a ≠ p
  dj : ∀ i j a, i ≠ j → U i a → ¬ U j a
theorem Hold.step (h : Hold T A0 H0 B σ H s ρ ok p vs U) (e : Fr T.F H H') (a : T.At s' H') : Hold T A0 H0 B σ H' s' ρ ok p vs U :=
  ⟨h.c.step e a, h.nt, h.no, e _ _ h.hp h.pF, h.pB, h.pF, h.p0, fun i v o hv => (h.tk i v o hv).keep (fun a xs q => e a _ q fun f => h.nt s H a xs h.c.at_ f q) fun a xs u q => e a _ q (h.uB i a u).2.1, h.uB, h.dj⟩
theorem Hold.grow (h : Hold T A0 H0 B σ H s ρ ok p vs U) (e : Same H H') : Hold T A0 H0 B σ H' s ρ ok p vs U := h.step (Fr.of e) (T.loc s H H' (fun a o _ q => e a o q) h.c.at_)
theorem Hold.setD (h : Hold T A0 H0 B σ H s ρ ok p vs U) {i : Nat} {v : V} {x : PyData} (d : DD (cut B H) v x) : Hold T A0 H0 B (σ.set i (some v)) H s (ρ.set i (some (.d x))) ok p vs U :=
  ⟨h.c.setD d, h.nt, fun j xs q => by
    rw [List.getElem?_set] at q
    by_cases e : i = j
    · rw [if_pos e] at q
      split at q
      · cases q
      · cases q
    · rw [if_neg e] at q
      exact h.no j xs q, h.hp, h.pB, h.pF, h.p0, h.tk, h.uB, h.dj⟩
theorem Hold.setV (h : Hold T A0 H0 B σ H s ρ ok p vs U) {i : Nat} {v : V} : Hold T A0 H0 B (σ.set i (some v)) H s (ρ.set i (some (.v v))) ok p vs U :=
  ⟨h.c.set (w := .v v) rfl fun _ z => (nomatch z), h.nt, fun j xs q => by
    rw [List.getElem?_set] at q
    by_cases e : i = j
    · rw [if_pos e] at q
      split at q
      · cases q
      · cases q
    · rw [if_neg e] at q
      exact h.no j xs q, h.hp, h.pB, h.pF, h.p0, h.tk, h.uB, h.dj⟩
/-- what is called of data without lists gives lists that are all new -/
theorem Hold.fresh (h : Hold T A0 H0 B σ H s ρ ok p vs U) (e : Same H H') : Hold T A0 H0 (NewB B H H') σ H' s ρ ok p vs U :=
  ⟨h.c.fresh e, h.nt, h.no, e _ _ h.hp, .inl h.pB, h.pF, h.p0, fun i v o hv => (h.tk i v o hv).keep (fun a xs q => e a _ q) fun a xs _ q => e a _ q, fun i a u => let ⟨x, y, z, w⟩ := h.uB i a u; ⟨.inl x, y, z, w⟩, h.dj⟩
theorem fresh_same (e : Same H H') : Same (cut B H) (cut (NewB B H H') H') := fun a o q => by
  obtain ⟨q1, q2⟩ := cut_get q
  exact cut_of (e a o q1) fun z => z.elim q2 fun ⟨z, _⟩ => by rw [z] at q1; cases q1
/-- the list at p is changed -/
theorem Hold.put (h : Hold T A0 H0 B σ H s ρ ok p vs U) {zs : List V} {ok' : Nat → Prop} (tk : ∀ i v, ok' i → zs[i]? = some v → TK (U i) H v) : Hold T A0 H0 B σ (upd H p (.lst zs)) s ρ ok' p zs U :=
  ⟨h.c.mut h.pB h.pF h.p0 (fun i xs q => absurd q (h.no i xs)) h.hp, h.nt, h.no, upd_same, h.pB, h.pF, h.p0, fun i v o hv => (tk i v o hv).keep (fun a xs q => by rw [upd_ne fun z => by rw [z, h.hp] at q; cases q]; exact q) fun a xs u q => by rw [upd_ne (h.uB i a u).2.2.2]; exact q, h.uB, h.dj⟩
theorem put_same {zs : List V} (hB : B p) : Same (cut B H) (cut B (upd H p (.lst zs))) := fun a o q => by
  obtain ⟨q1, q2⟩ := cut_get q
  exact cut_of (by rw [upd_ne fun z => q2 (by rw [z]; exact hB)]; exact q1) q2
/-- another family of sets -/
theorem Hold.ren (h : Hold T A0 H0 B σ H s ρ ok p vs U) {U' : Nat → Addr → Prop} {ok' : Nat → Prop} (tk : ∀ i v, ok' i → vs[i]? = some v → TK (U' i) H v) (uB : ∀ i a, U' i a → B a ∧ ¬ T.F a ∧ H0 a = none ∧ a ≠ p) (dj : ∀ i j a, i ≠ j → U' i a → ¬ U' j a) : Hold T A0 H0 B σ H s ρ ok' p vs U' :=
  ⟨h.c, h.nt, h.no, h.hp, h.pB, h.pF, h.p0, tk, uB, dj⟩
/-- the lists of one value are changed -/
theorem Hold.spoil (h : Hold T A0 H0 B σ H s ρ ok p vs U) {k : Nat} {L : Addr → Option Nat} {m w : Nat} (hL : ∀ a m, L a = some m → U k a) (af : Aft L m w H H') : Hold T A0 H0 B σ H' s ρ (fun i => ok i ∧ i ≠ k) p vs U ∧ Same (cut B H) (cut B H') := by
  have keep : ∀ a o, H a = some o → ¬ U k a → H' a = some o := fun a o q n => by
    rcases af a o q with z | ⟨m, xs, j, z, _⟩
    · exact z
    · exact absurd (hL a m z) n
  have keepT : ∀ a xs, H a = some (.tup xs) → H' a = some (.tup xs) := fun a xs q => by
    rcases af a _ q with z | ⟨_, _, _, _, _, z, _⟩
    · exact z
    · cases z
  have sc : Same (cut B H) (cut B H') := fun a o q => by
    obtain ⟨q1, q2⟩ := cut_get q
    exact cut_of (keep a o q1 fun z => q2 (h.uB k a z).1) q2
  refine ⟨⟨⟨h.c.fb, fun a b => ?_, T.loc s H H' (fun a o f q => keep a o q fun z => (h.uB k a z).2.1 f) h.c.at_, h.c.ln, fun i w q => ?_, fun a o q n => keep a o (h.c.fr a o q n) fun z => ?_, h.c.ab, h.c.d0, h.c.ba, h.c.ow, h.c.ex⟩, h.nt, h.no, keep p _ h.hp fun z => (h.uB k p z).2.2.2 rfl, h.pB, h.pF, h.p0,
    fun i v ⟨o, ne⟩ hv => (h.tk i v o hv).keep keepT fun a xs u q => keep a _ q fun z => h.dj i k a ne u z, h.uB, h.dj⟩, sc⟩
  · cases q : H a with
    | none => exact absurd q (h.c.dm a b)
    | some o =>
      rcases af a o q with z | ⟨_, _, _, _, _, _, _, z⟩
      · rw [z]; exact fun z => nomatch z
      · rw [z]; exact fun z => nomatch z
  · have z := h.c.sl i w q
    cases w with
    | d x => obtain ⟨v, z1, z2⟩ := z; exact ⟨v, z1, DD.mono sc _ _ z2⟩
    | v x => exact z
    | own xs => exact absurd q (h.no i xs)
  · rw [(h.uB k a z).2.2.1] at q; cases q
end
end J

namespace J
open PySem L2
theorem dmNewA {B : Addr → Prop} {H : Hp} (dm : ∀ a, B a → H a ≠ none) : ∀ a, NewA B H a → H a ≠ none := fun a z => by
  rcases z with z | ⟨_, z⟩
  · exact dm a z
  · rw [z]; exact fun z => nomatch z
/-- copies of all items of a list -/
theorem lc_keptG {n i0 io : Nat} {K : PySem.W.Frag} {σ : L2.St} {H : Hp} {a : Addr} {xs : List V} {ds : List PyData} {R : VK} (hσ : σ[i0]? = some (some (.ref a))) (hio : io < σ.length) (hx : DDs H xs ds) (hl : ds.length ≤ 100000) (hn : niceAll ds = true) (hd : PyData.depthAll ds < n) (ha : H a = some (.lst xs))
    (q : ∀ D acc H2, Same H H2 → H2 D = some (.lst acc) → H D = none → DDs (cut (fun b => exist H b ∨ b = D) H2) acc ds → R (.ref D) H2) : tLc (iSeq K (tVar i0)) (gName io) tYes (tCall (spKept n) [] E0 (tCons (tVar io) tNil)) [io] σ H R := by
  refine .inl ⟨_, hσ, a, rfl, ⟨xs, SqL.of ha⟩, fun D hD => lc_list (K := K) (a := a) (xs := xs) (fun i H' => ∃ acc, H' D = some (.lst acc) ∧ Same H H' ∧ DDs (cut (fun b => exist H b ∨ b = D) H') acc (ds.take i)) ⟨[], upd_same, same_new hD, .nil⟩ (fun i H' _ ⟨acc, _, h2, _⟩ => SqL.of (h2 a _ ha)) ?_ ?_⟩
  · rintro i x H' hi ⟨acc, h1, h2, h3⟩
    obtain ⟨d, e1, e2⟩ := hx.get' hi
    have hm := List.mem_of_getElem? e1
    have hi2 := (List.getElem?_eq_some_iff.mp e1).1
    refine ⟨wipe_set (by simp), ?_⟩
    refine ⟨x, by rw [List.getElem?_set, if_pos rfl, if_pos (by rw [wipe_length]; exact hio)], x, d, rfl, DD.mono h2 _ _ e2, niceAll_mem hn hm, Nat.lt_of_le_of_lt (depth_mem hm) hd, fun w H4 e dw => ?_⟩
    refine ⟨acc, e _ _ h1, Nat.lt_of_lt_of_le (show acc.length < 100001 by rw [h3.len, List.length_take]; omega) (by decide), _, upd_same, fun b o q => ?_, ?_⟩
    · rw [upd_ne fun z => by rw [z, hD] at q; cases q]
      exact e b o (h2 b o q)
    · rw [take_snoc e1]
      refine (DDs.mono (fun b o q => ?_) _ _ h3).app (DDs.one (DD.mono (fun b o q => ?_) _ _ dw))
      · obtain ⟨q1, q2⟩ := cut_get q
        exact cut_of (by rw [upd_ne fun z => q2 (.inr z)]; exact e b o q1) q2
      · obtain ⟨q1, q2⟩ := cut_get q
        have nD : b ≠ D := fun z => q2 (by rw [z]; show H' D ≠ none; rw [h1]; exact fun z => nomatch z)
        refine cut_of (by rw [upd_ne nD]; exact q1) fun z => z.elim (fun z => q2 ?_) nD
        cases y : H b with
        | none => exact absurd y z
        | some o' => show H' b ≠ none; rw [h2 b o' y]; exact fun z => nomatch z
  · rintro H' ⟨acc, h1, h2, h3⟩
    rw [hx.len, List.take_length] at h3
    exact q D acc H' h2 h1 hD h3
/-- what is good enough to be changed and told again -/
structure Tame (d : PyData) : Prop where
  dep : d.depth < 40
  len : lenB (wgt d) d
  nic : nice d = true
section
variable {T : Sto} {A0 : Addr → Prop} {H0 : Hp} {B : Addr → Prop} {σ : L2.St} {H H' : Hp} {s s' : T.S} {ρ : DEnv} {ok : Nat → Prop} {p : Addr} {vs : List V} {U : Nat → Addr → Prop} {K : PySem.W.Frag} {P : Pre} {f : Nat → PyData} {cases ds : List PyData} {R : VK} {E : XK}
/-- what is told anew -/
theorem Hold.told (h : Hold T A0 H0 B σ H s ρ ok p vs U) (i : Nat) {x : PyData} {v : V} (e : Same H H') (d : DD (cut (NewA B H) H') v x) (tm : Tame x) (zs : List V) (hz : ∀ j u, zs[j]? = some u → (j = i ∧ u = v) ∨ (j ≠ i ∧ vs[j]? = some u)) :
    ∃ U', Hold T A0 H0 (NewB B H H') σ (upd H' p (.lst zs)) s ρ (fun j => j = i ∨ ok j) p zs U' ∧ Same (cut B H) (cut (NewB B H H') (upd H' p (.lst zs))) ∧ DD (cut (fun a => a = p) (upd H' p (.lst zs))) v x := by
  have hf := h.fresh e
  have no1 : ∀ {a : Addr}, H a = none → ¬ T.F a := fun z f => h.c.dm _ (h.c.fb _ f) z
  have hr : Hold T A0 H0 (NewB B H H') σ H' s ρ (fun j => ok j ∧ j ≠ i) p vs (fun j => if j = i then (fun a => H a = none ∧ ∃ xs, H' a = some (.lst xs)) else U j) := by
    refine hf.ren (fun j u o hv => ?_) (fun j a u => ?_) fun j k a ne u w => ?_
    · rw [if_neg o.2]; exact hf.tk j u o.1 hv
    · by_cases z : j = i
      · rw [if_pos z] at u
        refine ⟨.inr u, no1 u.1, h.c.none0 (no1 u.1) u.1, fun z => ?_⟩
        rw [z, h.hp] at u
        cases u.1
      · rw [if_neg z] at u
        exact hf.uB j a u
    · by_cases z : j = i
      · rw [if_pos z] at u
        rw [if_neg fun y => ne (z.trans y.symm)] at w
        exact h.c.dm a (h.uB k a w).1 u.1
      · rw [if_neg z] at u
        by_cases y : k = i
        · rw [if_pos y] at w
          exact h.c.dm a (h.uB j a u).1 w.1
        · rw [if_neg y] at w
          exact h.dj j k a ne u w
  refine ⟨_, hr.put (zs := zs) (ok' := fun j => j = i ∨ ok j) fun j u o hv => ?_, (fresh_same e).trans (put_same hf.pB), DD.mono (fun a o q => ?_) _ _ d⟩
  · rcases hz j u hv with ⟨rfl, rfl⟩ | ⟨ne, hv'⟩
    · rw [if_pos rfl]
      refine (TK.of d tm.dep tm.len).le fun a ⟨z1, z2⟩ => ⟨?_, z2⟩
      cases q : H a with
      | none => rfl
      | some o =>
        obtain ⟨xs, y⟩ := z2
        rw [e a o q] at y
        cases y
        exact absurd (.inr ⟨xs, q⟩) z1
    · exact hr.tk j u ⟨o.resolve_left ne, ne⟩ hv'
  · obtain ⟨q1, q2⟩ := cut_get q
    have np : a ≠ p := fun z => q2 (.inl (by rw [z]; exact h.pB))
    exact cut_of (by rw [upd_ne np]; exact q1) np
/-- a call of a def of data, of one item without lists -/
theorem Hold.call (h : Hold T A0 H0 B σ H s ρ ok p vs U) {x y : PyData} {u : V} {R : VK} (hu : DD (cut B H) u x) (nl : noL x = true) (hp : P [x] fun z => z = y) (q : ∀ v H', Same H H' → DD (cut (NewA B H) H') v y → R v H') : spD P [u] H R E :=
  ⟨NewA B H, [x], _, dmNewA h.c.dm, .cons (DD.noL _ _ nl hu) .nil, hp, fun v H' z hz e d => by subst hz; exact q v H' e d⟩
theorem range_snoc (f : Nat → PyData) (i : Nat) : (List.range (i + 1)).map f = (List.range i).map f ++ [f i] := by rw [List.range_succ, List.map_append]; rfl
/-- [f(x) for x in xs], what is told held raw -/
theorem ask_every {ic io : Nat} (c : Cxt T A0 H0 B σ H s ρ) (nt : NoTup T) (no : ∀ (i : Nat) xs, ρ[i]? ≠ some (some (.own xs))) (hs : ρ[ic]? = some (some (.d (.list cases)))) (nl : noLs cases = true) (hio : io < σ.length) (hp : ∀ i d, cases[i]? = some d → P [d] (fun z => z = f i)) (tm : ∀ i, i < cases.length → Tame (f i)) (hlen : cases.length ≤ 1000)
    (q : ∀ p B' H' vs U, Hold T A0 H0 B' σ H' s ρ (fun _ => True) p vs U → DDs H' vs ((List.range cases.length).map f) → Same (cut B H) (cut B' H') → R (.ref p) H') :
    tLc (iSeq K (tVar ic)) (gName io) tYes (tCall (spD P) [] E (tCons (tVar io) tNil)) [io] σ H R := by
  obtain ⟨u, h1, h2⟩ := c.sl ic _ hs
  cases h2 with
  | @lst a xs _ ha hx =>
    have ha' := (cut_get ha).1
    refine .inl ⟨_, join_some h1, a, rfl, ⟨xs, SqL.of ha'⟩, fun D hD => lc_list (K := K) (a := a) (xs := xs) (fun i H' => ∃ B' vs U, Hold T A0 H0 B' σ H' s ρ (fun _ => True) D vs U ∧ vs.length = i ∧ DDs (cut (fun a => a = D) H') vs ((List.range i).map f) ∧ Same (cut B H) (cut B' H'))
      ⟨_, [], fun _ _ => False, ⟨c.fresh (same_new hD), nt, no, upd_same, .inr ⟨hD, _, upd_same⟩, fun z => c.dm D (c.fb D z) hD, c.none0 (fun z => c.dm D (c.fb D z) hD) hD, (fun i v _ z => nomatch z), (fun _ _ z => z.elim), fun _ _ _ _ z => z.elim⟩, rfl, .nil, fresh_same (same_new hD)⟩
      (fun i H' _ ⟨B', vs, U, _, _, _, sm⟩ => SqL.of (cut_get (sm a _ ha)).1) ?_ ?_⟩
    · rintro i x H' hi ⟨B', vs, U, hh, hvl, hdd, sm⟩
      obtain ⟨d, e1, e2⟩ := hx.get' hi
      have hi2 := (List.getElem?_eq_some_iff.mp e1).1
      refine ⟨wipe_set (by simp), ?_⟩
      refine ⟨x, by rw [List.getElem?_set, if_pos rfl, if_pos (by rw [wipe_length]; exact hio)], ?_⟩
      refine hh.call (E := E) (DD.mono sm _ _ e2) ?_ (hp i d e1) fun v H'' e dv => ?_
      · have : ∀ {ds : List PyData} {d : PyData}, noLs ds = true → d ∈ ds → noL d = true := fun {ds} => by
          induction ds with
          | nil => exact fun _ z => nomatch z
          | cons y r ih =>
            intro d h m
            have h' : noL y = true ∧ noLs r = true := by simpa [noLs] using h
            rcases List.mem_cons.mp m with rfl | m
            · exact h'.1
            · exact ih h'.2 m
        exact this nl (List.mem_of_getElem? e1)
      obtain ⟨U', k1, k2, k3⟩ := hh.told i e dv (tm i hi2) (vs ++ [v]) fun j u hj => by
        by_cases z : j < vs.length
        · rw [List.getElem?_append_left z] at hj
          exact .inr ⟨by omega, hj⟩
        · rw [List.getElem?_append_right (by omega)] at hj
          cases y : j - vs.length with
          | zero => rw [y] at hj; cases hj; exact .inl ⟨by omega, rfl⟩
          | succ n => rw [y] at hj; cases hj
      refine ⟨vs, e _ _ hh.hp, Nat.lt_of_lt_of_le (show vs.length < 100001 by omega) (by decide), _, _, _, k1.ren (fun j u _ hv => k1.tk j u (.inr trivial) hv) k1.uB k1.dj, by rw [List.length_append, hvl]; rfl, ?_, sm.trans k2⟩
      rw [range_snoc]
      refine (DDs.mono (fun b o q => ?_) _ _ hdd).app (DDs.one k3)
      obtain ⟨q1, q2⟩ := cut_get q
      exact cut_of (by rw [upd_ne q2]; exact e b o q1) q2
    · rintro H' ⟨B', vs, U, hh, hvl, hdd, sm⟩
      rw [hx.len] at hdd
      exact q D B' H' vs U hh (DDs.mono cut_same _ _ hdd) sm
theorem slotD {i : Nat} {x : PyData} (c : Cxt T A0 H0 B σ H s ρ) (h : ρ[i]? = some (some (.d x))) : ∃ v, σ[i]? = some (some v) ∧ DD (cut B H) v x := by
  obtain ⟨v, h1, h2⟩ := c.sl i _ h
  exact ⟨v, join_some h1, h2⟩
theorem ix_list {a : Addr} {xs : List V} {k : Nat} {v : V} {R : VK} (h : H a = some (.lst xs)) (hk : xs[k]? = some v) (q : R v H) : rIx K (.ref a) (.int (k : Int)) H R := .inl ⟨_, _, (k : Int), v, rfl, rfl, SqL.of h, atI_nat hk, q⟩
theorem noLs_at {ds : List PyData} {d : PyData} {i : Nat} (h : noLs ds = true) (e : ds[i]? = some d) : noL d = true := by
  induction ds generalizing i with
  | nil => cases e
  | cons y r ih =>
    have h' : noL y = true ∧ noLs r = true := by simpa [noLs] using h
    cases i with
    | zero => cases e; exact h'.1
    | succ i => exact ih h'.2 e
/-- f(xs[k]) is changed, told anew, compared -/
theorem ask_body {ic ie ij ik k : Nat} {D : Ends} {tr : TS} (h : Hold T A0 H0 B σ H s ρ (fun _ => True) p vs U) (se : ρ[ie]? = some (some (.v (.ref p)))) (sc : ρ[ic]? = some (some (.d (.list cases)))) (sj : ρ[ij]? = some (some (.d (.list ((List.range cases.length).map f))))) (sk : ρ[ik]? = some (some (.d (.int (k : Int)))))
    (hk : k < cases.length) (hv : vs.length = cases.length) (nl : noLs cases = true) (hp : ∀ i d, cases[i]? = some d → P [d] (fun z => z = f i)) (tm : ∀ i, i < cases.length → Tame (f i))
    (q : ∀ B' H' vs' U', Hold T A0 H0 B' σ H' s ρ (fun _ => True) p vs' U' → vs'.length = cases.length → Same (cut B H) (cut B' H') → D.nx σ H') :
    tSeq (tDrop (tCall (spSpoil 40) [] E (tCons (tOp (rIx K) (tVar ie) (tVar ik)) tNil))) (tSeq (tAsg (tCall (spD P) [] E (tCons (tOp (rIx K) (tVar ic) (tVar ik)) tNil)) (gSub (tVar ie) (tVar ik) rSetL)) (tIfS (tTest (tOp (rNeD K) (tOp (rIx K) (tVar ie) (tVar ik)) (tOp (rIx K) (tVar ij) (tVar ik)))) tr tNext)) D σ H := by
  have e1 : σ[ie]? = some (some (.ref p)) := join_some (h.c.sl ie _ se)
  have e2 : σ[ik]? = some (some (.int (k : Int))) := by
    obtain ⟨v, z1, z2⟩ := slotD h.c sk
    cases z2
    exact z1
  obtain ⟨qc, e3, dc⟩ := slotD h.c sc
  have hkv : vs[k]? = some vs[k] := List.getElem?_eq_getElem (by omega)
  have hkc : cases[k]? = some cases[k] := List.getElem?_eq_getElem hk
  obtain ⟨L, m, w, t1, t2, t3, t4⟩ := h.tk k _ trivial hkv
  refine ⟨_, e1, _, e2, ix_list h.hp hkv ⟨L, _, m, w, rfl, t1, t2, t3, fun H1 af => ?_⟩⟩
  obtain ⟨h1, s1⟩ := h.spoil t4 af
  have dc1 := DD.mono s1 _ _ dc
  cases dc1 with
  | @lst ac xc _ hac hxc =>
    obtain ⟨u, g1, g2⟩ := hxc.get hkc
    refine ⟨_, e3, _, e2, ix_list (cut_get hac).1 g1 (h1.call (E := E) g2 (noLs_at nl hkc) (hp k _ hkc) fun v H2 e dv => ?_)⟩
    obtain ⟨U', k1, k2, k3⟩ := h1.told k e dv (tm k hk) (vs.set k v) fun j u hj => by
      rw [List.getElem?_set] at hj
      by_cases z : k = j
      · rw [if_pos z] at hj
        split at hj
        · cases hj; exact .inl ⟨z.symm, rfl⟩
        · cases hj
      · rw [if_neg z] at hj
        exact .inr ⟨fun y => z y.symm, hj⟩
    have hp2 : H2 p = some (.lst vs) := e _ _ h1.hp
    refine ⟨_, e1, _, e2, p, vs, (k : Int), k, rfl, rfl, hp2, ?_, ?_⟩
    · unfold ixN
      rw [if_pos (by omega), if_pos (by omega)]
      simp
    have sm := s1.trans k2
    have k1' := k1.ren (ok' := fun _ => True) (fun j u _ hj => by
      by_cases z : j = k
      · exact k1.tk j u (.inl z) hj
      · exact k1.tk j u (.inr ⟨trivial, z⟩) hj) k1.uB k1.dj
    obtain ⟨qj, e4, dj⟩ := slotD k1'.c sj
    cases dj with
    | @lst aj xj _ haj hxj =>
      have hkf : ((List.range cases.length).map f)[k]? = some (f k) := by rw [List.getElem?_map, List.getElem?_range hk]; rfl
      obtain ⟨uj, g3, g4⟩ := hxj.get hkf
      have t := tm k hk
      have sh := shaped_of (nice_lay _ t.nic) (by have := t.dep; omega)
      refine ⟨_, e1, _, e2, ix_list (v := v) k1'.hp (by rw [List.getElem?_set, if_pos rfl, if_pos (by omega)]) ?_⟩
      refine ⟨_, e4, _, e2, ix_list (cut_get haj).1 g3 ?_⟩
      refine ⟨f k, f k, DD.dp _ _ (DD.mono cut_same _ _ k3), DD.dp _ _ (DD.mono cut_same _ _ g4), sh, sh, _, rfl, ?_⟩
      rw [eqv_self t.nic]
      exact q _ _ _ _ k1' (by rw [List.length_set]; exact hv) sm
end
end J

namespace J
open PySem L2
/-! ### the first sign with which no text goes on -/
def badX : List Nat → Nat → Nat × Bool → Option Nat
  | [], p, a => if a = (0, true) then none else some p
  | c :: l, p, a => match stepT a c with
    | none => some p
    | some b => badX l (p + 1) b
def badT (l : List Nat) : Option Nat := badX l 0 (0, false)
theorem badX_app : ∀ (l m : List Nat) (p : Nat) (a b : Nat × Bool), scanT l a = some b → badX (l ++ m) p a = badX m (p + l.length) b
  | [], m, p, a, b, h => by cases h; rfl
  | c :: l, m, p, a, b, h => by
    have h : (stepT a c).bind (scanT l) = some b := h
    show (match stepT a c with | none => some p | some b => badX (l ++ m) (p + 1) b) = _
    cases hy : stepT a c with
    | none => rw [hy] at h; cases h
    | some y =>
      rw [hy] at h
      show badX (l ++ m) (p + 1) y = _
      rw [badX_app l m (p + 1) y b h, List.length_cons, Nat.add_assoc, Nat.add_comm 1]
theorem bad_none : ∀ (l : List Nat) (p : Nat) (a : Nat × Bool), badX l p a = none → scanT l a = some (0, true)
  | [], p, a, h => by
    unfold badX at h
    split at h
    · rename_i e; rw [e]; rfl
    · cases h
  | c :: l, p, a, h => by
    have h : (match stepT a c with | none => some p | some b => badX l (p + 1) b) = none := h
    show (stepT a c).bind (scanT l) = _
    cases hy : stepT a c with
    | none => rw [hy] at h; cases h
    | some y => rw [hy] at h; exact bad_none l (p + 1) y h
theorem badT_none {l : List Nat} (h : badT l = none) : scanT l (0, false) = some (0, true) := bad_none l 0 _ h
/-- at a sign: it is bad, or the scan goes on -/
theorem badT_at {l : List Nat} {i c : Nat} {a : Nat × Bool} (h : scanT (l.take i) (0, false) = some a) (hc : l[i]? = some c) : (stepT a c = none ∧ badT l = some i) ∨ ∃ b, stepT a c = some b ∧ scanT (l.take (i + 1)) (0, false) = some b := by
  have hi := (List.getElem?_eq_some_iff.mp hc).1
  have e2 : l.take (i + 1) = l.take i ++ [c] := by rw [List.take_succ, hc]; rfl
  have e1 : l = l.take i ++ c :: l.drop (i + 1) := by
    have e := (List.getElem?_eq_some_iff.mp hc).2
    rw [← e, ← List.drop_eq_getElem_cons hi, List.take_append_drop]
  cases hy : stepT a c with
  | none =>
    refine .inl ⟨rfl, ?_⟩
    unfold badT
    rw [e1, badX_app _ _ 0 _ a h]
    show (match stepT a c with | none => some (0 + (l.take i).length) | some b => badX _ _ b) = _
    rw [hy, List.length_take, Nat.min_eq_left (by omega), Nat.zero_add]
  | some b =>
    refine .inr ⟨b, rfl, ?_⟩
    rw [e2, scanT_app, h]
    show (stepT a c).bind (scanT []) = some b
    rw [hy]; rfl
theorem badT_end {l : List Nat} {a : Nat × Bool} (h : scanT l (0, false) = some a) : badT l = if a = (0, true) then none else some l.length := by
  unfold badT
  have := badX_app l [] 0 _ a h
  rw [List.append_nil, Nat.zero_add] at this
  rw [this]
  rfl
/-! ### what may stand is read -/
theorem match_br : ∀ (l : List Nat) (k d d' : Nat) (b b' : Bool), scanT l (k + (d + 1), b) = some (d', b') → d' ≤ d → ∃ x y, l = x ++ 41 :: y ∧ scanT x (k, b) = some (0, true) ∧ scanT y (d, true) = some (d', b')
  | [], k, d, d', b, b', h, hd => by
    have h1 : some (k + (d + 1), b) = some (d', b') := h
    cases h1
    omega
  | c :: l, k, d, d', b, b', h, hd => by
    have h1 : (stepT (k + (d + 1), b) c).bind (scanT l) = some (d', b') := h
    clear h
    cases hy : stepT (k + (d + 1), b) c with
    | none => rw [hy] at h1; cases h1
    | some y =>
      rw [hy] at h1
      have h2 : scanT l y = some (d', b') := h1
      clear h1
      have go : ∀ (k' : Nat) (b1 : Bool), y = (k' + (d + 1), b1) → stepT (k, b) c = some (k', b1) → ∃ x y, c :: l = x ++ 41 :: y ∧ scanT x (k, b) = some (0, true) ∧ scanT y (d, true) = some (d', b') := fun k' b1 e e2 => by
        rw [e] at h2
        obtain ⟨x, z, h1, h2, h3⟩ := match_br l k' d d' b1 b' h2 hd
        refine ⟨c :: x, z, by rw [h1]; rfl, ?_, h3⟩
        show (stepT (k, b) c).bind (scanT x) = _
        rw [e2]; exact h2
      rcases step_cases hy with ⟨rfl, ⟨rfl, ey⟩ | ⟨rfl, ey⟩ | ⟨rfl, e, he, ey⟩⟩ | ⟨rfl, ⟨j, hj, rfl, ey⟩ | ⟨rfl, ey⟩ | ⟨rfl, ey⟩⟩
      · exact go k false ey step_and
      · exact go k false ey step_or
      · cases k with
        | zero =>
          have e0 : e = d := by omega
          rw [ey, e0] at h2
          exact ⟨[], l, rfl, rfl, h2⟩
        | succ k => exact go k true (by rw [ey, show e = k + (d + 1) by omega]) step_close
      · exact go k true ey (step_let hj)
      · exact go k false ey step_bang
      · exact go (k + 1) false (by rw [ey, show k + (d + 1) + 1 = k + 1 + (d + 1) by omega]) step_open
theorem W0.letter {i : Nat} (h : i < 8) : W0 3 [97 + i] := ⟨_, (Rd.look 0 i h).one1.one0⟩
/-- what stands behind a whole part: nothing, or a sign and a text -/
theorem tail_cases {y : List Nat} (h : scanT y (0, true) = some (0, true)) : y = [] ∨ ∃ sg m, y = sg :: m ∧ (sg = 38 ∨ sg = 124) ∧ scanT m (0, false) = some (0, true) := by
  cases y with
  | nil => exact .inl rfl
  | cons c m =>
    have h : (stepT (0, true) c).bind (scanT m) = some (0, true) := h
    cases hy : stepT (0, true) c with
    | none => rw [hy] at h; cases h
    | some z =>
      rw [hy] at h
      have h : scanT m z = some (0, true) := h
      rcases step_cases hy with ⟨_, ⟨rfl, rfl⟩ | ⟨rfl, rfl⟩ | ⟨rfl, e, he, rfl⟩⟩ | ⟨e, _⟩
      · exact .inr ⟨_, m, rfl, .inl rfl, h⟩
      · exact .inr ⟨_, m, rfl, .inr rfl, h⟩
      · omega
      · cases e
def Whole (l : List Nat) : Prop := ∃ h, W0 h l ∧ 2 * h ≤ 3 + 3 * l.length
theorem Whole.join {a y : List Nat} (ha : Whole a) (h : scanT y (0, true) = some (0, true)) (ih : ∀ m, m.length < y.length → scanT m (0, false) = some (0, true) → Whole m) : Whole (a ++ y) := by
  obtain ⟨h1, w1, b1⟩ := ha
  rcases tail_cases h with rfl | ⟨sg, m, rfl, hs, hm⟩
  · rw [List.append_nil]; exact ⟨h1, w1, b1⟩
  · obtain ⟨h2, w2, b2⟩ := ih m (by rw [List.length_cons]; omega) hm
    refine ⟨max (max h1 h2) 2, ?_, ?_⟩
    · rcases hs with rfl | rfl
      · have w1' := w1.le (k := max (max h1 h2) 2 - 2 + 2) (by omega)
        have w2' := w2.le (k := max (max h1 h2) 2 - 2 + 2) (by omega)
        exact (W0.and w2' _ (Nat.le_refl _) w1').le (by omega)
      · have w1' := w1.le (k := max (max h1 h2) 2 - 1 + 1) (by omega)
        have w2' := w2.le (k := max (max h1 h2) 2 - 1 + 1) (by omega)
        exact (w1'.or w2').le (by omega)
    · rw [List.length_append, List.length_cons]
      omega
theorem whole_of : ∀ (n : Nat) (l : List Nat), l.length ≤ n → scanT l (0, false) = some (0, true) → Whole l
  | 0, l, hn, h => by
    cases l with
    | nil => cases h
    | cons c l => rw [List.length_cons] at hn; omega
  | n + 1, l, hn, h => by
    cases l with
    | nil => cases h
    | cons c l =>
      rw [List.length_cons] at hn
      have h : (stepT (0, false) c).bind (scanT l) = some (0, true) := h
      cases hy : stepT (0, false) c with
      | none => rw [hy] at h; cases h
      | some y =>
        rw [hy] at h
        have h : scanT l y = some (0, true) := h
        rcases step_cases hy with ⟨e, _⟩ | ⟨_, ⟨j, hj, rfl, rfl⟩ | ⟨rfl, rfl⟩ | ⟨rfl, rfl⟩⟩
        · cases e
        · exact Whole.join (a := [97 + j]) ⟨3, W0.letter hj, by simp⟩ h fun m hm q => whole_of n m (by omega) q
        · obtain ⟨h1, w1, b1⟩ := whole_of n l (by omega) h
          refine ⟨max h1 2 + 1, ?_, by rw [List.length_cons]; omega⟩
          have := (w1.le (k := max h1 2 - 2 + 2) (by omega)).bang
          exact this.le (by omega)
        · obtain ⟨x, z, rfl, h2, h3⟩ := match_br l 0 0 0 false true h (Nat.le_refl 0)
          rw [List.length_append, List.length_cons] at hn
          obtain ⟨h1, w1, b1⟩ := whole_of n x (by omega) h2
          have e : 40 :: (x ++ 41 :: z) = (40 :: (x ++ [41])) ++ z := by simp
          rw [e]
          exact Whole.join ⟨h1 + 3, w1.br, by rw [List.length_cons, List.length_append, List.length_singleton]; omega⟩ h3 fun m hm q => whole_of n m (by omega) q
theorem read_of {l : List Nat} (h : badT l = none) (hl : l.length ≤ 200) : ∃ h c, Rd 0 h l c ∧ h ≤ 301 := by
  obtain ⟨h1, ⟨c, w⟩, b⟩ := whole_of _ l (Nat.le_refl _) (badT_none h)
  exact ⟨h1, c, w, by omega⟩
/-! ### how deep: less than there are signs -/
mutual
theorem Rd.deep_lt : ∀ {lv h : Nat} {l : List Nat} {c : Cn}, Rd lv h l c → c.deep < l.length
  | _, _, _, _, .look h i hi => Nat.one_pos
  | _, _, _, _, .nt (c := c) r => by
    have := r.deep_lt
    show c.deep + 1 < _
    rw [List.length_cons]; omega
  | _, _, _, _, .br r => by
    have := r.deep_lt
    rw [List.length_cons, List.length_append]; omega
  | _, _, _, _, .ands r t => by
    have := t.deep_lt r.deep_lt
    rw [List.length_append]; exact this
  | _, _, _, _, .ors r t => by
    have := t.deep_lt r.deep_lt
    rw [List.length_append]; exact this
theorem Tl.deep_lt : ∀ {b : Bool} {h : Nat} {a : Cn} {r : List Nat} {c : Cn} {n : Nat}, Tl b h a r c → a.deep < n → c.deep < n + r.length
  | _, _, _, _, _, _, .nil, e => e
  | _, _, _, _, _, n, .ands (a := a) (d := d) (m := m) g t, e => by
    have h1 := g.deep_lt
    have := t.deep_lt (n := n + (m.length + 1)) (show max a.deep d.deep + 1 < _ by omega)
    rw [List.length_cons, List.length_append]
    omega
  | _, _, _, _, _, n, .ors (a := a) (d := d) (m := m) g t, e => by
    have h1 := g.deep_lt
    have := t.deep_lt (n := n + (m.length + 1)) (show max a.deep d.deep + 1 < _ by omega)
    rw [List.length_cons, List.length_append]
    omega
end
/-! ### a text cut at a sign that stands in no brackets -/
def depS (d c : Nat) : Nat := if c = 40 then d + 1 else if c = 41 then d - 1 else d
def stepP (sg : Nat) (a : Nat × List (List Nat) × List Nat) (c : Nat) : Nat × List (List Nat) × List Nat :=
  if c = sg ∧ depS a.1 c = 0 then (depS a.1 c, a.2.1 ++ [a.2.2], []) else (depS a.1 c, a.2.1, a.2.2 ++ [c])
def runP (sg : Nat) (l : List Nat) (a : Nat × List (List Nat) × List Nat) : Nat × List (List Nat) × List Nat := l.foldl (stepP sg) a
def partsP (sg : Nat) (l : List Nat) : List (List Nat) := (runP sg l (0, [], [])).2.1 ++ [(runP sg l (0, [], [])).2.2]
theorem runP_app (sg : Nat) (l m : List Nat) (a : Nat × List (List Nat) × List Nat) : runP sg (l ++ m) a = runP sg m (runP sg l a) := List.foldl_append ..
theorem runP_cons (sg c : Nat) (m : List Nat) (a : Nat × List (List Nat) × List Nat) : runP sg (c :: m) a = runP sg m (stepP sg a c) := rfl
theorem stepP_other {sg c d : Nat} {fs : List (List Nat)} {cur : List Nat} (h : c ≠ sg) : stepP sg (d, fs, cur) c = (depS d c, fs, cur ++ [c]) := by unfold stepP; rw [if_neg fun z => h z.1]
theorem stepP_deep {sg c d : Nat} {fs : List (List Nat)} {cur : List Nat} (h : depS d c ≠ 0) : stepP sg (d, fs, cur) c = (depS d c, fs, cur ++ [c]) := by unfold stepP; rw [if_neg fun z => h z.2]
/-- whether a sign cuts at a level -/
def Quiet (sg lv d : Nat) : Prop := (sg = 38 ∨ sg = 124) ∧ (0 < d ∨ lv = 2 ∨ (sg = 124 ∧ lv = 1))
mutual
theorem Rd.runP {sg : Nat} : ∀ {lv h : Nat} {l : List Nat} {c : Cn}, Rd lv h l c → ∀ d fs cur, Quiet sg lv d → J.runP sg l (d, fs, cur) = (d, fs, cur ++ l)
  | _, _, _, _, .look h i hi, d, fs, cur, q => by
    rw [runP_cons, stepP_other (by have := q.1; omega)]
    unfold depS
    rw [if_neg (by omega), if_neg (by omega)]
    rfl
  | _, _, _, _, .nt r, d, fs, cur, q => by
    rw [runP_cons, stepP_other (by have := q.1; omega)]
    rw [show depS d 33 = d from rfl, r.runP d fs _ ⟨q.1, .inr (.inl rfl)⟩, List.append_assoc]
    rfl
  | _, _, _, _, .br r, d, fs, cur, q => by
    rw [runP_cons, stepP_other (by have := q.1; omega), runP_app, show depS d 40 = d + 1 from rfl, r.runP (d + 1) fs _ ⟨q.1, .inl (Nat.succ_pos _)⟩, runP_cons, stepP_other (by have := q.1; omega)]
    show (d + 1 - 1, fs, _) = _
    rw [Nat.add_sub_cancel]
    simp
  | _, _, _, _, .ands r t, d, fs, cur, q => by
    have q2 : Quiet sg 2 d := ⟨q.1, .inr (.inl rfl)⟩
    rw [runP_app, r.runP d fs cur q2, t.runP rfl d fs _ ⟨q.1, by have := q.2; omega⟩, List.append_assoc]
  | _, _, _, _, .ors r t, d, fs, cur, q => by
    have hd : 0 < d := by have := q.2; omega
    rw [runP_app, r.runP d fs cur ⟨q.1, .inl hd⟩, t.runP' hd d rfl fs _ q.1, List.append_assoc]
theorem Tl.runP {sg : Nat} : ∀ {b : Bool} {h : Nat} {a : Cn} {r : List Nat} {c : Cn}, Tl b h a r c → b = true → ∀ d fs cur, Quiet sg 1 d → J.runP sg r (d, fs, cur) = (d, fs, cur ++ r)
  | _, _, _, _, _, .nil, _, d, fs, cur, q => by rw [List.append_nil]; rfl
  | _, _, _, _, _, .ands g t, _, d, fs, cur, q => by
    have h1 : stepP sg (d, fs, cur) 38 = (d, fs, cur ++ [38]) := by
      have := q.2
      by_cases e : sg = 38
      · rw [stepP_deep (show depS d 38 ≠ 0 from (show d ≠ 0 by omega))]; rfl
      · rw [stepP_other (Ne.symm e)]; rfl
    rw [runP_cons, h1, runP_app, g.runP d fs _ ⟨q.1, .inr (.inl rfl)⟩, t.runP rfl d fs _ q]
    simp
  | _, _, _, _, _, .ors g t, e, d, fs, cur, q => nomatch e
theorem Tl.runP' {sg : Nat} : ∀ {b : Bool} {h : Nat} {a : Cn} {r : List Nat} {c : Cn}, Tl b h a r c → ∀ {n : Nat} (_ : 0 < n) (d : Nat) (_ : d = n) (fs : List (List Nat)) (cur : List Nat), (sg = 38 ∨ sg = 124) → J.runP sg r (d, fs, cur) = (d, fs, cur ++ r)
  | _, _, _, _, _, .nil, n, hn, d, hd, fs, cur, q => by rw [List.append_nil]; rfl
  | _, _, _, _, _, .ands g t, n, hn, d, hd, fs, cur, q => by
    have h1 : stepP sg (d, fs, cur) 38 = (d, fs, cur ++ [38]) := by rw [stepP_deep (show depS d 38 ≠ 0 from (show d ≠ 0 by omega))]; rfl
    rw [runP_cons, h1, runP_app, g.runP d fs _ ⟨q, .inl (by omega)⟩, t.runP' hn d hd fs _ q]
    simp
  | _, _, _, _, _, .ors g t, n, hn, d, hd, fs, cur, q => by
    have h1 : stepP sg (d, fs, cur) 124 = (d, fs, cur ++ [124]) := by rw [stepP_deep (show depS d 124 ≠ 0 from (show d ≠ 0 by omega))]; rfl
    rw [runP_cons, h1, runP_app, g.runP d fs _ ⟨q, .inl (by omega)⟩, t.runP' hn d hd fs _ q]
    simp
end
theorem parts_one {sg lv h : Nat} {l : List Nat} {c : Cn} (r : Rd lv h l c) (q : Quiet sg lv 0) : partsP sg l = [l] := by
  unfold partsP
  rw [r.runP 0 [] [] q]
  rfl
/-- the parts behind the first one -/
theorem Tl.parts {b : Bool} {h : Nat} {a c : Cn} {r : List Nat} (t : Tl b h a r c) : ∃ ms : List (List Nat × Cn), (∀ m ∈ ms, Rd (if b = true then 2 else 1) h m.1 m.2) ∧ c = ms.foldl (fun a m => .pr b a m.2) a ∧ (ms = [] → r = []) ∧
    ∀ fs cur, J.runP (sgOf b) r (0, fs, cur) = (0, fs ++ (cur :: ms.map (·.1)).dropLast, (cur :: ms.map (·.1)).getLast (List.cons_ne_nil _ _)) :=
  match b, h, a, r, c, t with
  | _, _, _, _, _, .nil => ⟨[], (fun m hm => nomatch hm), rfl, fun _ => rfl, fun fs cur => by simp [J.runP]⟩
  | _, _, _, _, _, .ands (m := m) (d := d) g t => by
    obtain ⟨ms, h1, h2, _, h3⟩ := t.parts
    refine ⟨(m, d) :: ms, fun x hx => ?_, h2, (fun z => nomatch z), fun fs cur => ?_⟩
    · rcases List.mem_cons.mp hx with rfl | hx
      · exact g
      · exact h1 x hx
    · have e : stepP (sgOf true) (0, fs, cur) 38 = (0, fs ++ [cur], []) := by unfold stepP; rw [if_pos ⟨rfl, rfl⟩]; rfl
      rw [runP_cons, e, runP_app, g.runP (sg := sgOf true) 0 _ [] ⟨.inl rfl, .inr (.inl rfl)⟩, List.nil_append, h3]
      simp [List.append_assoc, List.dropLast]
  | _, _, _, _, _, .ors (m := m) (d := d) g t => by
    obtain ⟨ms, h1, h2, _, h3⟩ := t.parts
    refine ⟨(m, d) :: ms, fun x hx => ?_, h2, (fun z => nomatch z), fun fs cur => ?_⟩
    · rcases List.mem_cons.mp hx with rfl | hx
      · exact g
      · exact h1 x hx
    · have e : stepP (sgOf false) (0, fs, cur) 124 = (0, fs ++ [cur], []) := by unfold stepP; rw [if_pos ⟨rfl, rfl⟩]; rfl
      rw [runP_cons, e, runP_app, g.runP (sg := sgOf false) 0 _ [] ⟨.inr rfl, .inr (.inr ⟨rfl, rfl⟩)⟩, List.nil_append, h3]
      simp [List.append_assoc, List.dropLast]
termination_by structural t
theorem parts_ands {h : Nat} {l : List Nat} {c : Cn} (r : Rd 1 (h + 1) l c) : ∃ (l0 : List Nat) (a : Cn) (ms : List (List Nat × Cn)), Rd 2 h l0 a ∧ (∀ m ∈ ms, Rd 2 h m.1 m.2) ∧ c = ms.foldl (fun a (m : List Nat × Cn) => .pr true a m.2) a ∧ (ms = [] → l = l0) ∧ partsP 38 l = l0 :: ms.map (·.1) := by
  cases r with
  | @ands _ l0 r0 a _ g t =>
    obtain ⟨ms, h1, h2, h0, h3⟩ := t.parts
    refine ⟨l0, a, ms, g, h1, h2, fun z => by rw [h0 z, List.append_nil], ?_⟩
    show partsP (sgOf true) _ = _
    unfold partsP
    rw [runP_app, g.runP (sg := sgOf true) 0 [] [] ⟨.inl rfl, .inr (.inl rfl)⟩, List.nil_append, h3]
    rw [List.nil_append]
    exact List.dropLast_concat_getLast _
theorem parts_ors {h : Nat} {l : List Nat} {c : Cn} (r : Rd 0 (h + 1) l c) : ∃ (l0 : List Nat) (a : Cn) (ms : List (List Nat × Cn)), Rd 1 h l0 a ∧ (∀ m ∈ ms, Rd 1 h m.1 m.2) ∧ c = ms.foldl (fun a (m : List Nat × Cn) => .pr false a m.2) a ∧ (ms = [] → l = l0) ∧ partsP 124 l = l0 :: ms.map (·.1) := by
  cases r with
  | @ors _ l0 r0 a _ g t =>
    obtain ⟨ms, h1, h2, h0, h3⟩ := t.parts
    refine ⟨l0, a, ms, g, h1, h2, fun z => by rw [h0 z, List.append_nil], ?_⟩
    show partsP (sgOf false) _ = _
    unfold partsP
    rw [runP_app, g.runP (sg := sgOf false) 0 [] [] ⟨.inr rfl, .inr (.inr ⟨rfl, rfl⟩)⟩, List.nil_append, h3]
    rw [List.nil_append]
    exact List.dropLast_concat_getLast _
end J

namespace J
open PySem L2 PyProof.Rows
/-! ### rules of texts that the kit has no word for -/
def rMulS : R2 := fun x y H Q => ∃ (z : Str) (n : Int), x = .str z ∧ y = .int n ∧ MulOk z n ∧ Q (.str (Txt.mul z n)) H
theorem op_mulS {X : Cx} : OpR X (binaryOp .Mult) rMulS := by
  intro pins s σ H x y v u Q I rx ry h
  obtain ⟨z, n, rfl, rfl, hok, q⟩ := h
  obtain ⟨t, rfl⟩ := rx
  obtain ⟨t2, rfl⟩ := ry
  exact SB.mul hok fun t' k => ⟨.str _, H, I.tok k, ⟨t', rfl⟩, q⟩
def sgV (z : Str) : List V := z.cps.toList.map fun c => V.str ⟨#[c]⟩
theorem vals_sg : ∀ (l : List Nat) (k : Nat) (acc : List Value), acc.length = l.length → (∀ i, i < l.length → ∃ c u, l[i]? = some c ∧ acc[i]? = some (.str ⟨#[c]⟩ u)) → Vals (l.map fun c => V.str ⟨#[c]⟩) acc
  | [], k, acc, hl, _ => by
    have : acc = [] := List.eq_nil_of_length_eq_zero hl
    subst this
    exact .nil
  | c :: l, k, acc, hl, h => by
    cases acc with
    | nil => cases hl
    | cons v acc =>
      obtain ⟨c', u, h1, h2⟩ := h 0 (by simp)
      cases h1
      cases h2
      refine .cons ⟨u, rfl⟩ (vals_sg l k acc (by simpa using hl) fun i hi => ?_)
      obtain ⟨c', u, h1, h2⟩ := h (i + 1) (by simpa using hi)
      exact ⟨c', u, by simpa using h1, by simpa using h2⟩
theorem vals_items {z : Str} {acc : Array Value} (h : ItemsOf (SignAt z) acc z.cps.size) : Vals (sgV z) acc.toList := by
  refine vals_sg _ 0 _ (by simp [h.1]) fun i hi => ?_
  have hi' : i < acc.size := by rw [h.1]; simpa using hi
  obtain ⟨c, u, h1, h2⟩ := h.2 i acc[i] (Array.getElem?_eq_getElem hi')
  refine ⟨c, u, by rw [Array.getElem?_toList]; exact h1, ?_⟩
  rw [Array.getElem?_toList, Array.getElem?_eq_getElem hi', h2]
def rListS : List V → Hp → VK → Prop := fun xs H Q => ∃ z : Str, xs = [.str z] ∧ z.length ≤ sizeLine ∧ ∀ l, H l = none → Q (.ref l) (upd H l (.lst (sgV z)))
theorem call_listS {X : Cx} (hcalm : X.calm = true) : CallR X (.type "list") rListS := by
  intro pins s σ H xs us Q I r h
  obtain ⟨z, rfl, hz, q⟩ := h
  obtain ⟨u, rfl, rx⟩ := vals1 r
  obtain ⟨t, rfl⟩ := rx
  refine call_list_str (I.ok.hd hcalm) z t (hn := hz) fun h' tk acc' c' hk hS' hacc => ?_
  refine ⟨.ref s.heap.objs.size, _, I.laid (t' := tk) hk (Nat.le_refl _) (show ObjOk X.prog X.w _ h' _ (.lst (sgV z)) from ⟨by unfold sgV; rw [List.length_map, Array.length_toList]; exact hz, acc'.toList, c', vals_items hacc, by rw [Array.toArray_toList]; exact hS'⟩), rfl, q _ (I.hok.fresh (Nat.le_refl _))⟩
/-- sep.join(a text): its signs with sep between -/
def sgS (z : Str) : List Str := z.cps.toList.map fun c => (⟨#[c]⟩ : Str)
def rJoinS : V → List V → Hp → VK → Prop := fun x xs H Q => ∃ a z : Str, x = .str a ∧ xs = [.str z] ∧ JoinOk a (sgS z) = true ∧ z.length ≤ sizeLine ∧ Q (.str (Txt.join a (sgS z))) H
theorem join_tree_str (sep : Str) (t : Tok) (y : Str) (u : Tok) : Builtin.«str.join» ⟨[.str sep t, .str y u], []⟩ = (do
    let ty ← typeOf (.str y u)
    if (ty == .type "list" || ty == .type "tuple") = true then (do
      match ← seqItems? (.str y u) with
      | some xs => joinTail sep xs.toList
      | none => unsupported "internal:str.join")
    else (do
      let it ← (pyIter (.str y u)).tryCatch fun e => do
        if ← isInstance e (.type "TypeError") then rule "str.join.not-iterable"; raiseError "TypeError" "can only join an iterable" else throw e
      let items ← collect it
      joinTail sep items)) := rfl
theorem mt_joinS {X : Cx} (hcalm : X.calm = true) : MtR X "str.join" rJoinS := by
  intro pins s σ H x xs v us Q I rx rs h
  obtain ⟨a, z, rfl, rfl, hok, hz, q⟩ := h
  obtain ⟨t, rfl⟩ := rx
  obtain ⟨u, rfl, ⟨t2, rfl⟩⟩ := vals1 rs
  refine wpAny_call (codeAny_call_builtin F.slot_str_join.plain F.entry_str_join (F.slot_str_join.check _ _ _ _ _ _ _ _ (typeIs_str _ _ _) (F.args_str_join_2 _ _) ?_))
  rw [join_tree_str]
  refine wpAny_bind (wpAny_typeOf (T := "str") (v := .str z t2) rfl ?_)
  rw [if_neg (by decide)]
  have key : ∀ (s' : Shared) (acc : Array Value), (∀ b o, s.heap.get? b = some o → s'.heap.get? b = some o) → s'.gens = s.gens → s'.drawn = s.drawn → s'.os = s.os → ItemsOf (SignAt z) acc z.cps.size →
      wpAny (model X.prog X.w) X.A.in1 (joinTail a acc.toList) (fun fin s' => match fin with | .done f => wants (EP X pins σ Q) X.xe (.ok f) s' | .again c' => c'.quiet = true ∧ codeAny (model X.prog X.w) X.A c' (wants (EP X pins σ Q) X.xe) s') (fun e s' => wants (EP X pins σ Q) X.xe (.error e) s') s' := fun s' acc hk h1 h2 h3 hacc => by
    obtain ⟨l, hl⟩ := exists_strValues acc.toList fun v hv => by
      obtain ⟨j, hj, rfl⟩ := Array.mem_iff_getElem.mp (Array.mem_toList_iff.mp hv)
      obtain ⟨c, u, _, e⟩ := hacc.2 j _ (Array.getElem?_eq_getElem hj)
      exact ⟨_, u, e⟩
    have hls : l.map (·.1) = sgS z := by
      apply List.ext_getElem?
      intro j
      unfold sgS
      rw [List.getElem?_map, List.getElem?_map]
      have hv : acc.toList[j]? = (l[j]?).map fun p => Value.str p.1 p.2 := by rw [← hl]; unfold strValues; rw [List.getElem?_map]
      cases e : l[j]? with
      | none =>
        rw [e] at hv
        have h4 : acc.size ≤ j := by simpa using List.getElem?_eq_none_iff.mp hv
        rw [show z.cps.toList[j]? = none from by rw [List.getElem?_eq_none_iff, Array.length_toList, ← hacc.1]; exact h4]
        rfl
      | some p =>
        rw [e, Array.getElem?_toList] at hv
        obtain ⟨c, u, e1, e2⟩ := hacc.2 j _ hv
        rw [Array.getElem?_toList, e1]
        injection e2 with e3 e4
        show some p.1 = some _
        rw [e3]
    rw [← hl]
    unfold JoinOk at hok
    rw [Bool.not_eq_true'] at hok
    have g : Gives (joinTail a (strValues l)) (joinMade a l) := by
      have g0 := gives_joinTail a l (by rw [hls]; exact hok)
      cases l with
      | nil => exact g0
      | cons p r => cases r with
        | nil => exact g0
        | cons q r' => exact g0
    have es : ∀ k, ({ s' with toks := k } : Shared) = { s with heap := s'.heap, toks := k } := fun k => by
      cases s'
      simp only at h1 h2 h3
      subst h1 h2 h3
      rfl
    refine g X.prog X.w X.A (wants (EP X pins σ Q) X.xe) s' (post_join l ⟨joinFit_length (by rw [hls]; exact hok), fun t' k => ?_⟩)
    rw [es, hls]
    exact ⟨.str _, H, I.kept (t' := k) hk, ⟨t', rfl⟩, q⟩
  have old : ∀ (o : Obj) (s' : Shared), (∀ b o', b ≠ s.heap.objs.size → (s.heap.push o).get? b = some o' → s'.heap.get? b = some o') → ∀ b o', s.heap.get? b = some o' → s'.heap.get? b = some o' := fun o s' hk b o' e => hk b o' (Nat.ne_of_lt (Heap.lt_size e)) (Heap.get?_push_of_some _ e)
  cases ha : z.cps.all (· < 128)
  · refine wpAny_bind (wpAny_tryCatch (wpAny_pyIter_wide ha ?_))
    exact wpAny_bind (wpAny_collect_strIter (A := X.A.in1) (I.ok.hd hcalm) (.inr rfl) ⟨_, Heap.get?_push_size _ rfl, rfl, rfl⟩ (fun s' acc hk h1 h2 h3 hacc => key s' acc (old _ s' hk) h1 h2 h3 hacc) hz)
  · refine wpAny_bind (wpAny_tryCatch (wpAny_pyIter_ascii ha ?_))
    exact wpAny_bind (wpAny_collect_strIter (A := X.A.in1) (I.ok.hd hcalm) (.inl rfl) ⟨_, Heap.get?_push_size _ rfl, rfl, rfl⟩ (fun s' acc hk h1 h2 h3 hacc => key s' acc (old _ s' hk) h1 h2 h3 hacc) hz)
def rSCnt : V → List V → Hp → VK → Prop := fun x xs H Q => ∃ a b, x = .str a ∧ xs = [.str b] ∧ Q (.int (Txt.count a b)) H
theorem mt_scnt {X : Cx} : MtR X "str.count" rSCnt := mt_count
/-- == of data of which one is not deep -/
def rEqM (K : PySem.W.Frag) : R2 := fun x y H Q => ∃ d e, Dp K H x d ∧ Dp K H y e ∧ PyData.canLay0 d = true ∧ PyData.canLay0 e = true ∧ min d.depth e.depth ≤ 64 ∧ Q (.bl (PyData.eqv d e)) H
theorem op_eqM {X : Cx} (hu : X.A.units + 64 < cLine) : OpR X (compareOp .Eq) (rEqM X.K) := by
  intro pins s σ H x y v u Q I rx ry h
  obtain ⟨d, e, hd, he, sd, se, hm, q⟩ := h
  obtain ⟨as, r1⟩ := Dp.reads I d x v hd rx
  obtain ⟨bs, r2⟩ := Dp.reads I e y u he ry
  exact SeqAt.compareEq_reads r1 r2 sd se (by omega) ⟨.bl _, H, I, rfl, q⟩
theorem pe_negC {X : Cx} {n : Int} {j : Nat} {p pos : Pos} : PE X (.UnaryOp .USub (.Constant (.int n) j p) pos) (tC (.int (-n))) := ⟨fun pins s σ H Q I h => (pe_un op_negU pe_int).run pins s σ H Q I ⟨n, rfl, h⟩⟩
/-! ### over data -/
section
variable {K : PySem.W.Frag} {Φ : PyData → Prop} {T : Sto} {s : T.S} {ρ : DEnv} {te to : TE} {Ψ : PyData → T.S → Prop}
theorem rd_mulS {z : Str} {n : Int} (h : MulOk z n) (q : Φ (.str (Txt.mul z n))) : RD rMulS (.str z) (.int n) Φ := fun B H v w Q dm d1 d2 k => by
  cases d1; cases d2
  exact ⟨z, n, rfl, rfl, h, k _ H _ q (Same.refl H) (.str _)⟩
theorem rd_eqM {x y : PyData} (h1 : x.canLay0 = true) (h2 : y.canLay0 = true) (h3 : min x.depth y.depth ≤ 64) (q : Φ (.bool (PyData.eqv x y))) : RD (rEqM K) x y Φ := fun B H v w Q dm d1 d2 k =>
  ⟨x, y, DD.dp _ _ (DD.mono cut_same _ _ d1), DD.dp _ _ (DD.mono cut_same _ _ d2), h1, h2, h3, k _ H _ q (Same.refl H) (.bl _)⟩
def sgD (l : List Nat) : List PyData := l.map fun c => PyData.str (tx [c])
theorem dds_sg {H : Hp} : ∀ l : List Nat, DDs H (l.map fun c => V.str ⟨#[c]⟩) (sgD l)
  | [] => .nil
  | c :: l => .cons (.str _) (dds_sg l)
theorem rc_listS {l : List Nat} (hl : l.length ≤ 100000) (q : Φ (.list (sgD l))) : RC rListS [.str (tx l)] Φ := fun B H vs Q dm d k => by
  cases d with
  | cons d1 d2 =>
    cases d2
    cases d1
    refine ⟨tx l, rfl, Nat.le_trans (by rw [tx_len]; exact hl) (by decide), fun p hp => ?_⟩
    exact k _ _ _ q (same_new hp) (.lst (new_cut dm hp) (dds_sg l))
/-- a sign in a row of signs -/
theorem in_sg {H : Hp} {c : Nat} : ∀ {l : List Nat} {vs : List V}, DDs H vs (sgD l) → vs.all flatV = true ∧ inV (.str (tx [c])) vs = decide (c ∈ l)
  | [], _, h => by cases h; exact ⟨rfl, by simp [inV]⟩
  | n :: r, _, h => by
    cases h with
    | cons h1 h2 =>
      cases h1
      obtain ⟨e1, e2⟩ := in_sg (c := c) h2
      refine ⟨by rw [List.all_cons, e1]; rfl, ?_⟩
      unfold inV at e2 ⊢
      rw [List.any_cons, e2]
      show ((tx [n] == tx [c]) || decide (c ∈ r)) = decide (c ∈ n :: r)
      rw [tx1_eq]
      by_cases q : n = c
      · subst q; simp
      · have q2 : ¬ c = n := fun z => q z.symm
        simp [q, q2]
theorem rd_inST {c : Nat} {l : List Nat} {xs : List PyData} (e : xs = sgD l) (q : Φ (.bool (decide (c ∈ l)))) : RD (rInU K) (.str (tx [c])) (.tuple xs) Φ := fun B H v w Q dm d1 d2 k => by
  subst e
  cases d1
  cases d2 with
  | tup ha hs =>
    obtain ⟨e1, e2⟩ := in_sg (c := c) hs
    refine .inl ⟨_, _, rfl, .inr (SqT.of (cut_get ha).1), rfl, e1, ?_⟩
    show Q (.bl (inV _ _)) H
    rw [e2]
    exact k _ H _ q (Same.refl H) (.bl _)
theorem rd_inSL {c : Nat} {l : List Nat} {xs : List PyData} (e : xs = sgD l) (q : Φ (.bool (decide (c ∈ l)))) : RD (rInU K) (.str (tx [c])) (.list xs) Φ := fun B H v w Q dm d1 d2 k => by
  subst e
  cases d1
  cases d2 with
  | lst ha hs =>
    obtain ⟨e1, e2⟩ := in_sg (c := c) hs
    refine .inl ⟨_, _, rfl, .inl (SqL.of (cut_get ha).1), rfl, e1, ?_⟩
    show Q (.bl (inV _ _)) H
    rw [e2]
    exact k _ H _ q (Same.refl H) (.bl _)
theorem wp_scnt {z : Str} (h : WE T to s ρ fun x s1 => ∃ a, x = .str a ∧ ∀ i, Ψ (.int i) s1) : WE T (tBM K "str" rSCnt to (tCons (tC (.str z)) tNil)) s ρ Ψ := fun A0 H0 B σ H c Q k =>
  h A0 H0 B σ H c _ fun v H1 x s1 ⟨a, ex, q⟩ e1 a1 d1 => by
    subst ex
    cases d1
    exact ⟨rfl, a, z, rfl, rfl, k _ H1 _ s1 (q _) e1 a1 (.int _)⟩
theorem wp_join {a z : Str} (h1 : JoinOk a (sgS z) = true) (h2 : z.length ≤ 100000) (q : Ψ (.str (Txt.join a (sgS z))) s) : WE T (tBM K "str" rJoinS (tC (.str a)) (tCons (tC (.str z)) tNil)) s ρ Ψ := fun A0 H0 B σ H c Q k =>
  ⟨rfl, a, z, rfl, rfl, h1, Nat.le_trans h2 (by decide), k _ H _ s q Fr.refl c.at_ (.str _)⟩
end
/-- a part of a text -/
theorem cutS_sub (l : List Nat) (lo hi : Option Int) : ∃ m, cutS (tx l) lo hi = tx m ∧ m.length ≤ l.length ∧ ∀ c ∈ m, c ∈ l := by
  refine ⟨_, tx_of _, ?_, fun c hc => ?_⟩
  · unfold cutS
    have : (tx l).cps.size = l.length := tx_len l
    simp
    omega
  · unfold cutS at hc
    rw [tx_cps] at hc
    exact List.mem_of_mem_drop (List.mem_of_mem_take (by simpa using hc))
/-! ### for over a text; x[i] = e at any place of a list of one's own -/
section
variable {T : Sto} {s : T.S} {ρ : DEnv} {R : PyData → T.S → Prop} {N : DEnv → T.S → Prop} {te ti : TE} {tb : TS} {g : TG} {i : Nat} {xs : List PyData}
theorem ws_for_strX {α : Type} (C : α → DEnv) (J : Nat → α → Prop) (a0 : α) (h : WE T te s ρ fun x s1 => ∃ l : List Nat, x = .str (tx l) ∧ LeE (C a0) ρ ∧ J 0 a0 ∧ (∀ (i : Nat) c s' a, l[i]? = some c → J i a → WG T g (.str (tx [c])) s' (C a) fun ρ2 s2 => WS T tb s2 ρ2 R fun ρ' _ => ∃ a', J (i + 1) a' ∧ LeE (C a') ρ') ∧ ∀ s' a, J l.length a → N (C a) s') :
    WS T (tFor (iStr te) g tb) s ρ R N := ws_ends (N' := N) fun A0 H0 B σ H c D r n =>
  h A0 H0 B σ H c _ fun v H1 x s1 ⟨l, ex, le, j0, hs, hd⟩ e a d => by
    subst ex
    cases d
    have c1 := c.step e a
    refine ⟨tx l, rfl, fun i m σ' H' => m = l.length - i ∧ i ≤ l.length ∧ ∃ B' s' a ρ', J i a ∧ LeE (C a) ρ' ∧ Cxt T A0 H0 B' σ' H' s' ρ', ⟨l.length, by omega, Nat.zero_le _, B, s1, a0, ρ, j0, le, c1⟩, ?_⟩
    rintro i m σ' H' ⟨rfl, hi, B', s', a, ρ', hJ, hle, c'⟩
    by_cases hlt : i < l.length
    · refine .inr ⟨by show i < (tx l).cps.size; rw [show (tx l).cps.size = l.length from tx_len l]; exact hlt, fun σ'' H'' => i + 1 ≤ l.length ∧ ∃ B' s' a ρ', J (i + 1) a ∧ LeE (C a) ρ' ∧ Cxt T A0 H0 B' σ'' H'' s' ρ', fun σ'' H'' ⟨h1, h2⟩ => ⟨l.length - (i + 1), by omega, rfl, h1, h2⟩, fun x H'' y => ?_⟩
      obtain ⟨rfl, k, hk, rfl⟩ := (show H'' = H' ∧ ∃ c, (tx l).cps[i]? = some c ∧ x = V.str ⟨#[c]⟩ from y)
      have hk' : l[i]? = some k := by
        rw [← Array.getElem?_toList] at hk
        exact hk
      refine hs i k s' a hk' hJ A0 H0 B' σ' H'' (c'.weak hle) _ (.str _) _ fun σ2 ρ2 hw c2 => ?_
      exact hw A0 H0 B' σ2 H'' c2 _ r fun B3 σ3 H3 s3 ρ3 ⟨a', h1, h2⟩ c3 => ⟨hlt, B3, s3, a', ρ3, h1, h2, c3⟩
    · have e0 : i = l.length := by omega
      subst e0
      exact .inl ⟨by show (tx l).cps.size ≤ _; rw [show (tx l).cps.size = l.length from tx_len l]; exact Nat.le_refl _, n B' σ' H' s' ρ' ⟨_, hle, hd s' a hJ⟩ c'⟩
theorem ws_setX (ho : ρ[i]? = some (some (.own xs))) (h : WE T te s ρ fun x s1 => WE T ti s1 ρ fun y s2 => ∃ (n : Int) (j : Nat), y = .int n ∧ ixN xs.length n = some j ∧ N (ρ.set i (some (.own (xs.set j x)))) s2) :
    WS T (tAsg te (gSub (tVar i) ti rSetL)) s ρ R N := fun A0 H0 B σ H c D r n => by
  obtain ⟨p, vs0, hi, _, _, _⟩ := c.own ho
  refine h A0 H0 B σ H c _ fun v H1 x s1 h1 e1 a1 d1 => ⟨_, hi, h1 A0 H0 B σ H1 (c.step e1 a1) _ fun u H2 y s2 ⟨m, j, ey, hj, f⟩ e2 a2 d2 => ?_⟩
  subst ey
  cases d2
  obtain ⟨p', vs, q1, q2, q3, q4⟩ := ((c.step e1 a1).step e2 a2).own ho
  rw [hi] at q1
  cases q1
  exact ⟨p, vs, _, j, rfl, rfl, q2, by rw [q3.len]; exact hj, n B σ _ s2 _ f (q4 _ _ (DDs.set_ j q3 (DD.mono (e2.cut c.fb) _ _ d1)))⟩
end
theorem isLet_mem (c : Nat) : isLet c = decide (c ∈ [97, 98, 99, 100, 101, 102, 103, 104]) := by
  unfold isLet
  by_cases h : 97 ≤ c ∧ c ≤ 104
  · rw [decide_eq_true h.1, decide_eq_true h.2, decide_eq_true]
    · rfl
    · simp; omega
  · rw [show decide (c ∈ [97, 98, 99, 100, 101, 102, 103, 104]) = false from decide_eq_false (by simp; omega)]
    rw [Bool.and_eq_false_iff, decide_eq_false_iff_not, decide_eq_false_iff_not]
    omega
theorem mem_op (c : Nat) : decide (c ∈ (Str.ofString "&|").cps.toList) = (c == 38 || c == 124) := by
  rw [show (Str.ofString "&|").cps.toList = [38, 124] from by decide +kernel]
  by_cases h1 : c = 38
  · subst h1; rfl
  · by_cases h2 : c = 124
    · subst h2; rfl
    · simp [h1, h2]
theorem mem_st (c : Nat) : decide (c ∈ (Str.ofString "abcdefgh" ++ Str.ofString "!(").cps.toList) = (isLet c || c == 33 || c == 40) := by
  rw [show (Str.ofString "abcdefgh" ++ Str.ofString "!(").cps.toList = [97, 98, 99, 100, 101, 102, 103, 104, 33, 40] from by decide +kernel, isLet_mem]
  by_cases h : c ∈ [97, 98, 99, 100, 101, 102, 103, 104]
  · rw [decide_eq_true h, decide_eq_true]
    · rfl
    · simp at h ⊢; omega
  · rw [decide_eq_false h]
    by_cases h1 : c = 33
    · subst h1; rfl
    · by_cases h2 : c = 40
      · subst h2; rfl
      · rw [decide_eq_false]
        · simp [h1, h2]
        · simp at h ⊢; omega
theorem mem_bh (c : Nat) : decide (c ∈ (Str.ofString "abcdefgh" ++ Str.ofString ")").cps.toList) = (isLet c || c == 41) := by
  rw [show (Str.ofString "abcdefgh" ++ Str.ofString ")").cps.toList = [97, 98, 99, 100, 101, 102, 103, 104, 41] from by decide +kernel, isLet_mem]
  by_cases h : c ∈ [97, 98, 99, 100, 101, 102, 103, 104]
  · rw [decide_eq_true h, decide_eq_true]
    · rfl
    · simp at h ⊢; omega
  · rw [decide_eq_false h]
    by_cases h1 : c = 41
    · subst h1; rfl
    · rw [decide_eq_false]
      · simp [h1]
      · simp at h ⊢; omega
/-- the step's answer -/
theorem step_is {d c : Nat} {b : Bool} {y : Nat × Bool} (h : stepT (d, b) c = some y) : y.2 = (isLet c || c == 41) ∧ (y.1 : Int) = (d : Int) + (if c = 40 then 1 else 0) - (if c = 41 then 1 else 0) := by
  rcases step_cases h with ⟨_, ⟨rfl, rfl⟩ | ⟨rfl, rfl⟩ | ⟨rfl, e, rfl, rfl⟩⟩ | ⟨_, ⟨j, hj, rfl, rfl⟩ | ⟨rfl, rfl⟩ | ⟨rfl, rfl⟩⟩
  · exact ⟨rfl, by simp⟩
  · exact ⟨rfl, by simp⟩
  · exact ⟨rfl, by simp⟩
  · refine ⟨?_, by rw [if_neg (by omega), if_neg (by omega)]; simp⟩
    have e : isLet (97 + j) = true := by unfold isLet; rw [decide_eq_true (by omega), decide_eq_true (by omega)]; rfl
    rw [e]; rfl
  · exact ⟨rfl, by simp⟩
  · exact ⟨rfl, by simp⟩
theorem step_good {d c : Nat} {b : Bool} : (stepT (d, b) c).isSome = goodT (d, b) c := by
  unfold stepT
  cases h : goodT (d, b) c <;> rfl
abbrev brK : List (Key × V) := [(Sum.inr "(", V.int (1)), (Sum.inr ")", V.int (-1))]
def brV (c : Nat) : Int := (if c = 40 then 1 else 0) - (if c = 41 then 1 else 0)
theorem brk_get (c : Nat) : (valV (mergeK [] brK) (Sum.inr (tx [c]))).getD (V.int 0) = V.int (brV c) := by
  have e : mergeK [] brK = [(Sum.inr (tx [40]), V.int 1), (Sum.inr (tx [41]), V.int (-1))] := by decide +kernel
  rw [e]
  by_cases h1 : c = 40
  · subst h1; rw [valV_pos rfl]; rfl
  · by_cases h2 : c = 41
    · subst h2; decide +kernel
    · have n1 : ¬ (Sum.inr (tx [40]) : Key) = Sum.inr (tx [c]) := fun z => by
        injection z with z
        have := tx_inj z
        simp at this
        exact h1 this.symm
      have n2 : ¬ (Sum.inr (tx [41]) : Key) = Sum.inr (tx [c]) := fun z => by
        injection z with z
        have := tx_inj z
        simp at this
        exact h2 this.symm
      unfold valV
      rw [List.find?_cons, decide_eq_false n1, List.find?_cons, decide_eq_false n2]
      unfold brV
      rw [if_neg h1, if_neg h2]
      rfl
theorem wp_brk {T : Sto} {s : T.S} {ρ : DEnv} {Φ : PyData → T.S → Prop} {i c : Nat} (hi : ρ[i]? = some (some (.d (.str (tx [c]))))) (q : Φ (.int (brV c)) s) : WE T (tDGet2 (tDisp (cD brK)) (tVar i) (tC (.int 0))) s ρ Φ := by
  refine wp_dget2 (by decide) ?_
  refine wp_var hi ?_
  refine wp_int ?_
  refine ⟨.inr (tx [c]), .int 0, rfl, rfl, rfl, by rw [brk_get]; rfl, ?_⟩
  rw [brk_get]
  exact q
theorem s_let1 : (Str.ofString "abcdefgh)").cps.toList = [97, 98, 99, 100, 101, 102, 103, 104, 41] := by decide +kernel
theorem mem_b1 (c : Nat) : decide (c ∈ (Str.ofString "abcdefgh)").cps.toList) = (isLet c || c == 41) := by
  rw [← mem_bh, s_let1, show (Str.ofString "abcdefgh" ++ Str.ofString ")").cps.toList = [97, 98, 99, 100, 101, 102, 103, 104, 41] from by decide +kernel]
theorem mem_s1 (c : Nat) : decide (c ∈ [97, 98, 99, 100, 101, 102, 103, 104, 33, 40]) = (isLet c || c == 33 || c == 40) := by
  rw [← mem_st, show (Str.ofString "abcdefgh" ++ Str.ofString "!(").cps.toList = [97, 98, 99, 100, 101, 102, 103, 104, 33, 40] from by decide +kernel]
theorem mem_o1 (c : Nat) : decide (c ∈ [38, 124]) = (c == 38 || c == 124) := by
  rw [← mem_op, show (Str.ofString "&|").cps.toList = [38, 124] from by decide +kernel]
theorem s_first : Str.ofString "abcdefgh!(" = tx [97, 98, 99, 100, 101, 102, 103, 104, 33, 40] := by decide +kernel
theorem s_none : Str.ofString "" = tx [] := by decide +kernel
theorem runP_take {sg : Nat} {l : List Nat} {i c : Nat} (h : l[i]? = some c) : runP sg (l.take (i + 1)) (0, [], []) = stepP sg (runP sg (l.take i) (0, [], [])) c := by
  rw [List.take_succ, h]
  show runP sg (l.take i ++ [c]) _ = _
  rw [runP_app]
  rfl
theorem dep_is {d c : Nat} {b : Bool} {y : Nat × Bool} (h : stepT (d, b) c = some y) : y.1 = depS d c := by
  unfold stepT at h
  split at h
  · cases h; rfl
  · cases h
theorem set_last {α : Type} (xs : List α) (x y : α) : (xs ++ [x]).set xs.length y = xs ++ [y] := by
  rw [List.set_append_right _ _ (Nat.le_refl _), Nat.sub_self]
  rfl
theorem ixN_last {n : Nat} : ixN (n + 1) (-1) = some n := by
  unfold ixN
  rw [if_neg (by decide)]
  rw [if_pos (by omega)]
  congr 1
  omega
theorem atI_last {α : Type} (xs : List α) (x : α) : atI (xs ++ [x]) (-1) = some x := by
  unfold atI
  rw [List.length_append, List.length_singleton, ixN_last]
  simp
end J

namespace J
open PySem L2 PyProof.Rows
/-! ### methods that call themselves deeply: one frame a call -/
structure RoomD (n : Nat) (A : Around) : Prop where
  hd : A.handled = none
  dp : A.depth + n + 30 < recursionLimit
  un : A.units + 3 * n + 300 < cLine
theorem RoomD.room {n k : Nat} {A : Around} (r : RoomD n A) (h : k ≤ 4) : Room k A := ⟨r.hd, by have := r.dp; omega, by have := r.un; omega⟩
theorem RoomD.units {n : Nat} {A : Around} (r : RoomD n A) : A.units + 64 < cLine := by have := r.un; omega
theorem RoomD.down {n : Nat} {A : Around} (r : RoomD (n + 1) A) (env : PySem.Env) : RoomD n (A.deeper env) := by
  refine ⟨r.hd, ?_, ?_⟩
  · have := r.dp
    show A.depth + 1 + n + 30 < _
    omega
  · have := r.un
    show A.units + 3 + 3 * n + 300 < _
    omega
theorem RoomD.of {n k : Nat} {A : Around} (r : Room k A) (h : n + 30 ≤ 3 * k) : RoomD n A := ⟨r.hd, by have := r.dp; omega, by have := r.un; omega⟩
theorem hu_ofD {A : Around} {n : Nat} (hr : RoomD n A) : A.units + 1 < cLine := by have := hr.un; omega
structure FnD (P : Program) (w : World) (K : PySem.W.Frag) (mg : Str → Option Value) (base : Heap) (n : Nat) (f : Addr) (fd : FuncData) (ps : List Str) (sp : Sp) : Prop where
  len : ∀ vs H Q E, sp vs H Q E → vs.length = ps.length
  run : ∀ (A : Around) (outer : List PySem.Env) (s : Shared) (H : Hp) (args : Args) (us : List Value) (vs : List V) (Q : VK) (E : XK), RoomD n A → Env0 P w K mg base A outer s H → BindsTo s fd args (ps.zip us) → Vals vs us → sp vs H Q E →
    codeAny (model P w) A (.call (.ref f) args) (CR CX0 outer P w H s Q E) s
theorem FnD.ok {P : Program} {w : World} {K : PySem.W.Frag} {mg : Str → Option Value} {base : Heap} {n k : Nat} {f : Addr} {fd : FuncData} {ps : List Str} {sp : Sp} (F : FnD P w K mg base n f fd ps sp) (h : n + 30 ≤ 3 * k) : FnOk P w K mg base CX0 k f fd ps sp :=
  ⟨F.len, fun A outer s H args us vs Q E hr => F.run A outer s H args us vs Q E (.of hr h)⟩
/-- a def by its body, counted so -/
theorem fnD_of {P : Program} {w : World} {K : PySem.W.Frag} {mg : Str → Option Value} {base : Heap} {x qual : Str} {st : Stmt} {f : Addr} {fd : FuncData} {N ps : List Str} {n : Nat} {sp : Sp} (F : Fun K x qual st f fd) (S : FnScope N ps (defScope st)) (len : ∀ vs H Q E, sp vs H Q E → vs.length = ps.length)
    (hb : ∀ (cdv : Value) (A : Around) (outer : List PySem.Env) (s : Shared) (H : Hp) (vs : List V) (Q : VK) (E : XK), RoomD n (A.deeper (envOfC qual (defScope st) s.heap.objs.size f cdv)) → sp vs H Q E →
      ∃ t, PSs (cxOf CX0 P w K mg base N qual (defScope st) f cdv A outer s H E).nox (defBody st) t ∧ t { nx := fun _ H' => Q .non H', rt := Q } (L2.start N vs) H) : FnD P w K mg base (n + 1) f fd ps sp := by
  obtain ⟨oc, od, kV, doc, pm, an, cdv, ct, osl, rfl, lk, hcd⟩ := F.ex
  refine ⟨len, fun A outer s H args us vs Q E hr e0 hbt rv hsp => ?_⟩
  have hln := len _ _ _ _ hsp
  have inK := e0.mod.kin.keeps fun b o e => (e0.bs b o e).1
  have noL := e0.mod.nolimit.keeps fun b o e => (e0.bs b o e).1
  have hd : A.depth < recursionLimit := by have := hr.dp; omega
  refine codeAny_call_function hd (inK _ _ lk) rfl S.co S.gen rfl (PySem.W.codeRec_of inK hcd) (hbt _ _ _ _ ?_)
  refine wpAny_newFunctionEnv_cells S.kind (fun ⟨y, v⟩ hy => (S.par y (List.of_mem_zip hy).1).elim .inl fun q => .inr ⟨q, PySem.W.cellsFrom_some _ _ _ (.inl q)⟩) fun env he s1 xi => ?_
  subst he
  refine ⟨noL.keeps xi.toInCall.keep, codeAny_func ?_⟩
  obtain ⟨t, ht, hq⟩ := hb cdv A outer s H vs Q E (hr.down _) hsp
  have I := inv_start (CX := CX0) (E := E) S hr.hd e0 hln rv xi
  refine wpAny_mono (ht.nox.run [] s1 (L2.start N vs) H _ I hq) (fun fl s' hs => ?_) fun e s' hs => hs
  cases fl with
  | ret u =>
    obtain ⟨v, σ', H', Jn, r', q⟩ := hs
    exact ⟨v, H', Jn.os, Jn.bare, Jn.base, Jn.hok, r', q⟩
  | next =>
    obtain ⟨σ', H', Jn, q⟩ := hs
    exact ⟨.non, H', Jn.os, Jn.bare, Jn.base, Jn.hok, rfl, q⟩
  | brk => obtain ⟨_, _, _, q⟩ := hs; exact q.elim
  | cont => obtain ⟨_, _, _, q⟩ := hs; exact q.elim
def CalMD (P : Program) (w : World) (K : PySem.W.Frag) (mg : Str → Option Value) (base : Heap) (n : Nat) (C : Addr) (m : Str) (ps : List Str) (sp : Sp) : Prop :=
  ∃ (f : Addr) (fd : FuncData), Meth K C m f ∧ Binds K fd ps [] ∧ FnD P w K mg base n f fd ps sp
theorem CalMD.cal {P : Program} {w : World} {K : PySem.W.Frag} {mg : Str → Option Value} {base : Heap} {n k : Nat} {C : Addr} {m : Str} {ps : List Str} {sp : Sp} (h : CalMD P w K mg base n C m ps sp) (hk : n + 30 ≤ 3 * k) : CalM P w K mg base k C m ps sp := by
  obtain ⟨f, fd, M, B, F⟩ := h
  exact ⟨f, fd, M, B, F.ok hk⟩
theorem calMD_zero {P : Program} {w : World} {K : PySem.W.Frag} {mg : Str → Option Value} {base : Heap} {n : Nat} {C : Addr} {m : Str} {ps : List Str} {sp : Sp} {f : Addr} {fd : FuncData} (M : Meth K C m f) (B : Binds K fd ps []) (z : ∀ vs H Q E, ¬ sp vs H Q E) :
    CalMD P w K mg base n C m ps sp := ⟨f, fd, M, B, ⟨fun vs H Q E h => absurd h (z vs H Q E), fun A outer s H args us vs Q E _ _ _ _ h => absurd h (z vs H Q E)⟩⟩
section
variable {X : Cx} {n : Nat} {C f : Addr} {fd : FuncData} {m : Str} {ps : List Str} {sp : Sp} {o e : Expr} {es : List Expr} {ta : TE} {t : TA} {apos pos : Pos}
theorem run_D {pins : List (Addr × Obj)} {σ : L2.St} {H : Hp} {s : Shared} {Q : VK} {us : List Value} {vs : List V} (F : FnD X.prog X.w X.K X.mg X.base n f fd ps sp) (hr : RoomD n X.A) (hb : Binds X.K fd ps []) (I : Inv X pins σ H s) (r : Vals vs us) (h : sp vs H Q E0) :
    wpAny (model X.prog X.w) X.A (call (.ref f) us) (EP X pins σ Q) X.xe s := by
  have hl : (us ++ []).length = ps.length := by rw [List.append_nil, ← r.length]; exact F.len _ _ _ _ h
  have r' : Vals vs (us ++ []) := by rw [List.append_nil]; exact r
  refine wpAny_call (codeAny_mono (F.run X.A X.stack s H ⟨us, []⟩ (us ++ []) vs Q E0 hr I.env0 (hb s us I.kIn hl) r' h) fun out s' hq => ?_)
  match out, hq with
  | .error e, hq => exact (show False from hq).elim
  | .ok (.ret u), hq => exact I.after hq
theorem pe_callMD {pl : Sem Bool} (he : PE X o ta) (cl : Cls X.K C) (h : CalMD X.prog X.w X.K X.mg X.base n C m ps sp) (hr : RoomD n X.A) (ha : PA X (e :: es) t)
    (hst : starEach (e :: es) X.env = (false, eval e X.env) :: starEach es X.env := by rfl) (hpl : (backTo pos (starEach es X.env)).any (·.1) = false := by rfl)
    (ht : eval (.Call (.Attribute o m apos) (e :: es) [] pos) X.env = (do
      let ov ← eval o X.env
      standAt apos.atName
      let (g, one) ← holding [ov] (getMethod ov m pl)
      callWith pos g one (backTo pos (starEach (e :: es) X.env)) (backToKw pos (keywordEach [] X.env))) := by rfl) :
    PE X (.Call (.Attribute o m apos) (e :: es) [] pos) (tMeth C m sp [] E0 ta t) := by
  obtain ⟨f, fd, hm, hb, F⟩ := h
  refine ⟨fun pins s σ H Q I hh => PySem.W.methodCall_KW (pl := pl) (thn (he.run pins s σ H _ I hh) fun u s1 ⟨x, H1, I1, rx, a, dx, fs, ex, ea, l, q⟩ => ?_) ht⟩
  subst ex
  cases (show u = Value.ref a from rx)
  refine getmeth_ok I1 ea cl hm l (PySem.W.callWith_K (first := [.ref a]) (h₀ := X.base) I.ok.mod.kin hm.kp (thn (ha.run pos pins s1 σ H1 _ I1 q) fun us s2 ⟨vs, H2, I2, r, q2⟩ => ⟨I2.kIn, ?_⟩) hst hpl)
  have q3 : sp (.ref a :: (vs ++ [])) H2 Q E0 := q2
  rw [List.append_nil] at q3
  exact run_D (us := .ref a :: us) (vs := .ref a :: vs) F hr hb I2 (.cons rfl r) q3
theorem pe_callMD0 {pl : Sem Bool} (he : PE X o ta) (cl : Cls X.K C) (h : CalMD X.prog X.w X.K X.mg X.base n C m ps sp) (hr : RoomD n X.A)
    (ht : eval (.Call (.Attribute o m apos) [] [] pos) X.env = (do
      let ov ← eval o X.env
      standAt apos.atName
      let (g, one) ← holding [ov] (getMethod ov m pl)
      callWith pos g one (backTo pos (starEach [] X.env)) (backToKw pos (keywordEach [] X.env))) := by rfl) :
    PE X (.Call (.Attribute o m apos) [] [] pos) (tMeth C m sp [] E0 ta tNil) := by
  obtain ⟨f, fd, hm, hb, F⟩ := h
  refine ⟨fun pins s σ H Q I hh => PySem.W.methodCall_KW (pl := pl) (thn (he.run pins s σ H _ I hh) fun u s1 ⟨x, H1, I1, rx, a, dx, fs, ex, ea, l, q⟩ => ?_) ht⟩
  subst ex
  cases (show u = Value.ref a from rx)
  exact getmeth_ok I1 ea cl hm l (PySem.W.callWith_K0 (first := [.ref a]) I1.kIn hm.kp (run_D (us := [.ref a]) (vs := [.ref a]) F hr hb I1 (.cons rfl .nil) q))
end
theorem fnRdD {P : Program} {w : World} {K : PySem.W.Frag} {mg : Str → Option Value} {base : Heap} {x qual : Str} {st : Stmt} {f : Addr} {fd : FuncData} {N ps : List Str} {y : Str} {n : Nat} {C : Addr} {Pr : PreR} {t : TS} (F : Fun K x qual st f fd) (S : FnScope (y :: N) ps (defScope st))
    (len : ∀ z p ds Ψ, Pr z p ds Ψ → ds.length + 1 = ps.length)
    (hb : ∀ (cdv : Value) (A : Around) (outer : List PySem.Env) (s : Shared) (H : Hp) (E : XK), RoomD n (A.deeper (envOfC qual (defScope st) s.heap.objs.size f cdv)) → PSs (cxOf CX0 P w K mg base (y :: N) qual (defScope st) f cdv A outer s H E).nox (defBody st) t)
    (hw : ∀ r dx z p ds Ψ, Pr z p ds Ψ → WS (rdS r C dx z) t p (initR r (y :: N) ds) (fun x p' => Ψ x p') (fun _ p' => Ψ .none p')) : FnD P w K mg base (n + 1) f fd ps (spRd C Pr) := by
  refine fnD_of F S (fun vs H Q E h => ?_) (fun cdv A outer s H vs Q E hr h => ?_)
  · obtain ⟨r, dx, z, p, us, B, ds, Ψ, rfl, _, _, _, d, hp, _⟩ := h
    rw [List.length_cons, d.len]
    exact len z p ds Ψ hp
  · obtain ⟨r, dx, z, p, us, B, ds, Ψ, rfl, hb1, ha, dm, d, hp, q⟩ := h
    refine ⟨t, hb cdv A outer s H E hr, ?_⟩
    refine hw r dx z p ds Ψ hp B H B _ H (cxt_startR dm d hb1 ha) _ (fun v H' y s' hy e a d' => q v H' y s' hy e a d') fun B' σ' H' s' ρ' hn c => q .non H' .none s' hn c.fr c.at_ .non
end J

namespace J
open PySem L2
def top (i : Nat) : Stmt := PySem.Challenge.pw_jumpsay_k11_texts_refused.main.body.getD i (.Pass ⟨0, 0, 0, 0⟩)
/-! one step over data -/
local macro_rules | `(tactic| walk_at "j") => `(tactic| first
  | ((with_reducible refine wp_ixO (xs := ?jx) ?jh ?jq); (case jh => exact rfl))
  | (with_reducible refine wp_inK (by assumption) ?_)
  | (with_reducible refine wp_ixD (by assumption) ?_)
  | (with_reducible refine wp_op ?_)
  | ((with_reducible refine wp_var (x := ?jx) ?jh ?jq); (case jh => exact rfl))
  | (with_reducible refine wp_int ?_)
  | (with_reducible refine wp_str ?_)
  | (with_reducible refine rd_ix0 ?_)
  | (with_reducible refine rd_ix1 ?_)
  | (with_reducible refine rd_ix2 ?_)
  | (with_reducible refine rd_ix3 ?_)
  | (with_reducible refine rd_eqW (by decide +kernel) (by decide +kernel) ?_)
  | (with_reducible refine rd_neW (by decide +kernel) (by decide +kernel) ?_)
  | (with_reducible refine rd_eqI ?_)
  | (with_reducible refine rd_neI ?_)
  | (with_reducible refine rd_addI ?_)
  | (with_reducible refine rd_sub ?_)
  | (with_reducible refine ⟨_, rfl, ?_⟩)
  | (with_reducible refine ifT rfl ?_)
  | (with_reducible refine ifF rfl ?_)
  | (with_reducible refine ifT (by decide +kernel) ?_)
  | (with_reducible refine ifF (by decide +kernel) ?_)
  | (with_reducible refine wa_cons ?_)
  | (with_reducible refine wa_nil ?_)
  | (with_reducible refine wt_test ?_)
  | (with_reducible refine wp_if ?_)
  | (with_reducible refine wp_isi (by first | exact .inl rfl | exact .inr (.inl rfl) | exact .inr (.inr (.inl rfl)) | exact .inr (.inr (.inr (.inl rfl))) | exact .inr (.inr (.inr (.inr rfl)))) ?_)
  | ((with_reducible refine wp_lenO (xs := ?jx) ?jh ?jq); (case jh => exact rfl))
  | ((with_reducible refine wp_isX (b := ?jb) dS_at ?jh (.own _) ?jf ?jq); (case jh => exact rfl); (case jf => assumption))
  | ((with_reducible refine wp_isX (b := ?jb) dS_at ?jh (.ty _) ?jf ?jq); (case jh => exact rfl); (case jf => assumption))
  | ((with_reducible refine wp_fText ?jh (by assumption) (by assumption) ?jq); (case jh => exact rfl))
  | ((with_reducible refine wp_fPlace ?jh (by assumption) (by assumption) ?jq); (case jh => exact rfl))
  | ((with_reducible refine wp_methR ?jh ?j1 ?j2 ?jq); (case jh => exact rfl); (case j1 => decide +kernel); (case j2 => decide +kernel))
  | ((with_reducible refine ws_place ?jh (by assumption) (by assumption) ?jq); (case jh => exact rfl))
  | (with_reducible refine wp_call ?_)
  | (with_reducible refine wp_callD ?_)
  | ((with_reducible refine wp_callX ?jh ?jq); (case jh => exact rfl))
  | ((with_reducible refine wp_callB ?jh ?jq); (case jh => exact rfl))
  | (with_reducible refine wp_slice ?_)
  | (with_reducible refine wo_none ?_)
  | (with_reducible refine wo_some ?_)
  | (with_reducible refine rs_tail ?_)
  | ((with_reducible refine lcs_cons ?jh ?jq); (case jh => (simp; done)))
  | (with_reducible refine lcs_nil ?_)
  | (with_reducible refine wt_yes ?_)
  | (with_reducible refine ws_seq ?_)
  | (with_reducible refine ws_if ?_)
  | (with_reducible refine ws_ret ?_)
  | ((with_reducible refine ws_move (xs := ?jx) ?jh ?jq); (case jh => exact rfl))
  | ((with_reducible refine ws_setI (xs := ?jx) ?jh ?jq); (case jh => exact rfl))
  | (with_reducible refine ws_asg ?_)
  | (with_reducible refine wg_name ?_)
  | (with_reducible refine wg_tup2 ?_)
  | (with_reducible refine wg_tup3 ?_)
  | (with_reducible refine wg_tup4 ?_)
  | (with_reducible refine ws_next ?_)
  | (with_reducible refine ws_retN ?_)
  | ((with_reducible refine ws_appL ?jh ?jq); (case jh => exact rfl))
  | ((with_reducible refine ws_app (xs := ?jx) ?jh ?jq); (case jh => exact rfl))
  | ((with_reducible refine And.intro (a := _ < List.length _) ?jh ?jq); (case jh => exact of_decide_eq_true rfl))
  | ((with_reducible refine ws_ext (xs := ?jx) ?jh ?jq); (case jh => exact rfl))
  | (with_reducible refine ws_par ?_)
  | (with_reducible refine ws_drop ?_)
  | (with_reducible refine wt_B ?_)
  | (with_reducible refine wt_and ?_)
  | (with_reducible refine wt_or ?_)
  | (with_reducible refine wt_not ?_)
  | (with_reducible refine wp_andV ?_)
  | (with_reducible refine wp_orV ?_)
  | (with_reducible refine wp_notV ?_)
  | (with_reducible refine wp_bl ?_)
  | (with_reducible refine wp_non ?_)
  | (with_reducible refine wp_tup ?_)
  | ((with_reducible refine And.intro (a := _ ≤ 100000) ?jh ?jq); (case jh => (simp; done)))
  | (with_reducible refine wp_lst ?_)
  | (with_reducible refine wp_un ?_)
  | (with_reducible refine r1_neg ?_)
  | (with_reducible refine rc_lenT ?_)
  | (with_reducible refine rc_lenL ?_)
  | (with_reducible refine rc_intI ?_)
  | (with_reducible refine rc_intB ?_)
  | (with_reducible refine rd_lt ?_)
  | (with_reducible refine rd_le ?_)
  | (with_reducible refine rd_gt ?_)
  | (with_reducible refine rd_ge ?_)
  | (with_reducible refine wp_chain ?_)
  | (with_reducible refine rc_tupL ?_)
  | (with_reducible refine rd_div ⟨by decide, by decide⟩ ?_)
  | (with_reducible refine rd_mod (by decide) ?_)
  | (with_reducible refine rd_eqB ?_))
local macro_rules | `(tactic| walk_at "js") => `(tactic| with_reducible refine wp_lcS_tup (gin_name (by decide)) ?_)
local macro_rules | `(tactic| walk_at "jm") => `(tactic| with_reducible refine wp_lcM_tup (gin_name (by decide)) ?_)
local macro_rules | `(tactic| walk_at "jo") => `(tactic| first | (with_reducible refine ws_own ?_) | walk_at "j")

/-! ### BadCode.__init__ -/
abbrev si_BadCode : Stmt := (clsB (top 5)).getD 0 (.Pass ⟨0, 0, 0, 0⟩)
theorem sci_BadCode : FnScope ["self", "place"] ["self", "place"] (defScope si_BadCode) := ⟨rfl, rfl, rfl, by decide +kernel, rfl, by decide +kernel, by decide +kernel⟩
theorem ok_init_BadCode {P : Program} {w : World} {K : PySem.W.Frag} {mg : Str → Option Value} {base : Heap} {f : Addr} {fd : FuncData} {a_JumpError : Addr} (F : Fun K "__init__" "BadCode.__init__" si_BadCode f fd) (ji : JIni K a_JumpError) (hc : mg "JumpError" = some (.ref a_JumpError)) : FnOk P w K mg base CX0 1 f fd ["self", "place"] (spInit K) :=
  fnInit F sci_BadCode fun cdv A outer s H E hr => pss_cons (ps_expr (pe_jini ji rfl hc (pa_cons (pv 0) (pa_cons pe_str pa_nil)))) (pss_one (ps_ost (pv 0) (pv 1)))

/-! ### BadText.__init__ -/
abbrev si_BadText : Stmt := (clsB (top 9)).getD 0 (.Pass ⟨0, 0, 0, 0⟩)
theorem sci_BadText : FnScope ["self", "place"] ["self", "place"] (defScope si_BadText) := ⟨rfl, rfl, rfl, by decide +kernel, rfl, by decide +kernel, by decide +kernel⟩
theorem ok_init_BadText {P : Program} {w : World} {K : PySem.W.Frag} {mg : Str → Option Value} {base : Heap} {f : Addr} {fd : FuncData} {a_JumpError : Addr} (F : Fun K "__init__" "BadText.__init__" si_BadText f fd) (ji : JIni K a_JumpError) (hc : mg "JumpError" = some (.ref a_JumpError)) : FnOk P w K mg base CX0 1 f fd ["self", "place"] (spInit K) :=
  fnInit F sci_BadText fun cdv A outer s H E hr => pss_cons (ps_expr (pe_jini ji rfl hc (pa_cons (pv 0) (pa_cons pe_str pa_nil)))) (pss_one (ps_ost (pv 0) (pv 1)))

/-! ### is_condition -/
abbrev s_is_condition : Stmt := top 15
abbrev n_is_condition : List Str := ["part", "deep", "one"]
abbrev q_is_condition : List Str := ["part", "deep"]
theorem sc_is_condition : FnScope n_is_condition q_is_condition (defScope s_is_condition) := ⟨rfl, rfl, rfl, by decide +kernel, rfl, by decide +kernel, by decide +kernel⟩

/-! what is a condition -/
abbrev wXor : Str := "xor"
abbrev wNOT : Str := "Not"
abbrev wNil : Str := ""
def sizeW (s : Str) : Option Int := if s = wLook then some 2 else if s = wNot then some 2 else if s = wAnd then some 3 else if s = wOr then some 3 else none
def W7 (s : Str) : Prop := s = wLook ∨ s = wNot ∨ s = wAnd ∨ s = wOr ∨ s = wXor ∨ s = wNOT ∨ s = wNil
mutual
def isC : PyData → Int → Bool
  | .tuple ds, k => isCt ds k
  | _, _ => false
def isCt : List PyData → Int → Bool
  | .str w :: t, k => decide (k ≤ 10) && decide ((sizeW w).getD 0 = (t.length : Int) + 1) && (if w == wLook then (match t with | [.int i] => decide (0 ≤ i) && decide (i < 8) | _ => false) else isCs t (k + 1))
  | _, _ => false
def isCs : List PyData → Int → Bool
  | [], _ => true
  | d :: ds, k => isC d k && isCs ds k
end
theorem isCs_all (k : Int) : ∀ ds : List PyData, isCs ds k = (ds.map fun d => isC d k).all id
  | [] => rfl
  | d :: ds => by rw [isCs, isCs_all k ds]; rfl
mutual
def okD : PyData → Prop
  | .tuple ds => (∀ w t, ds = .str w :: t → W7 w) ∧ okDs ds
  | _ => True
def okDs : List PyData → Prop
  | [] => True
  | d :: ds => okD d ∧ okDs ds
end
theorem okDs_mem : ∀ {ds : List PyData} {d : PyData}, okDs ds → d ∈ ds → okD d
  | _ :: _, _, h, .head _ => h.1
  | _ :: _, _, h, .tail _ m => okDs_mem h.2 m
theorem lay_mem : ∀ {ds : List PyData} {d : PyData}, PyData.canLayAll0 ds = true → d ∈ ds → d.canLay0 = true
  | e :: r, d, h1, m => by
    have h1' : e.canLay0 = true ∧ PyData.canLayAll0 r = true := by simpa [PyData.canLayAll0] using h1
    cases m with
    | head _ => exact h1'.1
    | tail _ m => exact lay_mem h1'.2 m
theorem lay_item {ds : List PyData} {d : PyData} (h : (PyData.tuple ds).canLay0 = true) (m : d ∈ ds) : d.canLay0 = true := by
  simp only [PyData.canLay0] at h
  exact lay_mem (by simpa using h) m
def P_is_condition (n : Nat) : Pre := fun ds Ψ => ∃ (d : PyData) (k : Int), ds = [d, .int k] ∧ 0 ≤ k ∧ k ≤ 11 ∧ 12 ≤ k + n ∧ okD d ∧ d.canLay0 = true ∧ Ψ (.bool (isC d k))
theorem len_is_condition {n : Nat} : ∀ ds Ψ, P_is_condition n ds Ψ → ds.length = 2 := fun ds Ψ ⟨_, _, e, _⟩ => by rw [e]; rfl
theorem zero_is_condition : ∀ vs H Q E, ¬ spD (P_is_condition 0) vs H Q E := zeroD fun ds Ψ ⟨_, k, _, _, h1, h2, _⟩ => by
  have h2 : 12 ≤ k + ((0 : Nat) : Int) := h2
  omega
/-! of conditions -/
theorem size_look : sizeW wLook = some 2 := by decide +kernel
theorem size_not : sizeW wNot = some 2 := by decide +kernel
theorem size_and : sizeW wAnd = some 3 := by decide +kernel
theorem size_or : sizeW wOr = some 3 := by decide +kernel
theorem isC_D : ∀ (c : Cn) (k : Int), isC c.D k = true ↔ c.ok ∧ k + c.deep ≤ 10
  | .look i, k => by
    simp only [Cn.D, isC, isCt, size_look, beq_self_eq_true, if_true, Cn.ok, Cn.deep, Option.getD_some, List.length_singleton, Bool.and_eq_true, decide_eq_true_eq]
    omega
  | .nt c, k => by
    have ih := isC_D c (k + 1)
    simp only [Cn.D, isC, isCt, isCs, size_not, ne_nl, Cn.ok, Cn.deep, Option.getD_some, List.length_singleton, Bool.and_eq_true, decide_eq_true_eq, Bool.false_eq_true, if_false, ih, Bool.and_true]
    constructor
    · rintro ⟨⟨a, b⟩, c, d⟩
      exact ⟨c, by omega⟩
    · rintro ⟨c, d⟩
      exact ⟨⟨by omega, by omega⟩, c, by omega⟩
  | .pr true x y, k => by
    have ih := isC_D x (k + 1)
    have ih2 := isC_D y (k + 1)
    simp only [Cn.D, isC, isCt, isCs, size_and, ne_al, Cn.ok, Cn.deep, Option.getD_some, List.length_cons, List.length_nil, Bool.and_eq_true, decide_eq_true_eq, Bool.false_eq_true, if_false, ih, ih2, Bool.and_true]
    constructor
    · rintro ⟨⟨a, b⟩, ⟨c, d⟩, e, f⟩
      exact ⟨⟨c, e⟩, by omega⟩
    · rintro ⟨⟨c, e⟩, d⟩
      exact ⟨⟨by omega, by omega⟩, ⟨c, by omega⟩, e, by omega⟩
  | .pr false x y, k => by
    have ih := isC_D x (k + 1)
    have ih2 := isC_D y (k + 1)
    simp only [Cn.D, isC, isCt, isCs, size_or, ne_ol, Cn.ok, Cn.deep, Option.getD_some, List.length_cons, List.length_nil, Bool.and_eq_true, decide_eq_true_eq, Bool.false_eq_true, if_false, ih, ih2, Bool.and_true]
    constructor
    · rintro ⟨⟨a, b⟩, ⟨c, d⟩, e, f⟩
      exact ⟨⟨c, e⟩, by omega⟩
    · rintro ⟨⟨c, e⟩, d⟩
      exact ⟨⟨by omega, by omega⟩, ⟨c, by omega⟩, e, by omega⟩
theorem okD_D : ∀ c : Cn, okD c.D
  | .look i => by
    refine ⟨fun w t e => ?_, trivial, trivial, trivial⟩
    cases e
    exact .inl rfl
  | .nt c => by
    refine ⟨fun w t e => ?_, trivial, okD_D c, trivial⟩
    cases e
    exact .inr (.inl rfl)
  | .pr true x y => by
    refine ⟨fun w t e => ?_, trivial, okD_D x, okD_D y, trivial⟩
    cases e
    exact .inr (.inr (.inl rfl))
  | .pr false x y => by
    refine ⟨fun w t e => ?_, trivial, okD_D x, okD_D y, trivial⟩
    cases e
    exact .inr (.inr (.inr (.inl rfl)))

def t_is_condition (K : PySem.W.Frag) (w : World) (a_SIZES : Addr) (n : Nat) : TS :=
  (tSeq (tIfS (tOr (tNot (tB (tCB (rIsi K) (tCons (tVar 0) (tCons (tC (.ty "tuple")) tNil))))) (tOr (tTest (tOp (rEqM K) (tVar 0) (tTup tNil))) (tTest (tOp rGtI (tVar 1) (tC (.int 10)))))) (tRet (tC (.bl false))) tNext)
  (tSeq (tIfS (tOr (tNot (tB (tCB (rIsi K) (tCons (tOp (rIx K) (tVar 0) (tC (.int 0))) (tCons (tC (.ty "str")) tNil))))) (tTest (tOp (rNeD K) (tKGet2 K w (tC (.ref a_SIZES)) (tOp (rIx K) (tVar 0) (tC (.int 0))) (tC (.int 0))) (tCB (rLenU K) (tCons (tVar 0) tNil))))) (tRet (tC (.bl false))) tNext)
  (tSeq (tIfS (tTest (tOp (rEqD K) (tOp (rIx K) (tVar 0) (tC (.int 0))) (tC (.str "look")))) (tRet (tAndV (tCB (rIsi K) (tCons (tOp (rIx K) (tVar 0) (tC (.int 1))) (tCons (tC (.ty "int")) tNil))) (tAndV (tNotV (tCB (rIsi K) (tCons (tOp (rIx K) (tVar 0) (tC (.int 1))) (tCons (tC (.ty "bool")) tNil)))) (tChain rLeI rLtI (tC (.int 0)) (tOp (rIx K) (tVar 0) (tC (.int 1))) (tC (.int 8)))))) tNext)
  (tRet (tCB (rAll K) (tCons (tLc (iSeq K (tSl (rSlU K) (tVar 0) (tPart (tC (.int 1))) tNoPart)) (gName 2) tYes (tCall (spD (P_is_condition n)) [] E0 (tCons (tVar 2) (tCons (tOp (rAddU K) (tVar 1) (tC (.int 1))) tNil))) [2]) tNil))))))

theorem shaped_nil : SeqAt.shaped (.tuple []) = true := by decide +kernel
theorem W7_ok {s : Str} (h : W7 s) : PyData.strOk s = true := by
  rcases h with rfl | rfl | rfl | rfl | rfl | rfl | rfl <;> decide +kernel
theorem w_is_condition (n : Nat) {K : PySem.W.Frag} {w : World} {a_SIZES : Addr} (kt : KTab K w a_SIZES sizeW W7) : ∀ ds Ψ, P_is_condition (n + 1) ds Ψ → WS uS (t_is_condition K w a_SIZES n) () (init n_is_condition ds) (fun x _ => Ψ x) (fun _ _ => Ψ .none) := by
  rintro ds Ψ ⟨d, k, rfl, h0, h1, h2, ok, sh, q⟩
  unfold t_is_condition
  cases d with
  | tuple ds =>
    repeat walk_at "j"
    refine rd_eqM sh (SeqAt.canLay_of_shaped shaped_nil) (by simp [PyData.depth, PyData.depthAll]) ?_
    cases ds with
    | nil =>
      repeat walk_at "j"
      exact q
    | cons h t =>
      repeat walk_at "j"
      refine ifD (fun hk => ?_) (fun hk => ?_)
      · repeat walk_at "j"
        have e : isC (.tuple (h :: t)) k = false := by
          cases h <;> simp [isC, isCt] <;> omega
        rw [e] at q
        exact q
      · repeat walk_at "j"
        cases h with
        | str s =>
          have hw : W7 s := ok.1 s t rfl
          have hs : PyData.strOk s = true := W7_ok hw
          repeat walk_at "j"
          refine wp_kget2 kt ?_
          repeat walk_at "j"
          refine ⟨_, _, rfl, hw, rfl, ?_⟩
          repeat walk_at "j"
          refine ifND (fun hl => ?_) (fun hl => ?_)
          · repeat walk_at "j"
            have e : isC (.tuple (.str s :: t)) k = false := by
              have e1 : decide ((sizeW s).getD 0 = (t.length : Int) + 1) = false := decide_eq_false hl
              simp only [isC, isCt, e1, Bool.and_false, Bool.false_and]
            rw [e] at q
            exact q
          · have e1 : decide ((sizeW s).getD 0 = (t.length : Int) + 1) = true := decide_eq_true hl
            have e2 : decide (k ≤ 10) = true := decide_eq_true (by omega)
            repeat walk_at "j"
            refine rd_eqW hs (by decide +kernel) ?_
            repeat walk_at "j"
            cases e : s == wLook with
            | true =>
              have hsw : s = wLook := by simpa using e
              subst hsw
              rw [size_look] at e1
              simp only [isC, isCt, size_look, beq_self_eq_true, if_true, e1, e2, Bool.true_and] at q
              have hlen : t.length = 1 := by
                have := of_decide_eq_true e1
                have : (2 : Int) = t.length + 1 := this
                omega
              match t, hlen with
              | [x], _ =>
                cases x with
                | int i =>
                  repeat walk_at "j"
                  refine ifD (fun h1 => ?_) (fun h1 => ?_)
                  · repeat walk_at "j"
                    simpa [h1] using q
                  · repeat walk_at "j"
                    simpa [h1] using q
                | _ =>
                  repeat walk_at "j"
                  exact q
            | false =>
              repeat walk_at "j"
              walk_at "jm"
              repeat walk_at "j"
              have hsm : t.length < 100000 := by
                have h5 := of_decide_eq_true e1
                have h6 : (sizeW s).getD 0 ≤ 3 := by
                  rcases hw with rfl | rfl | rfl | rfl | rfl | rfl | rfl <;> decide +kernel
                omega
              refine ⟨hsm, fun d => .bool (isC d (k + 1)), fun d hd => ?_, ?_⟩
              · repeat walk_at "j"
                refine ⟨rfl, ?_⟩
                repeat walk_at "j"
                exact ⟨d, k + 1, rfl, by omega, by omega, by omega, okDs_mem ok.2 (List.mem_cons_of_mem _ hd), lay_item sh (List.mem_cons_of_mem _ hd), rfl, rfl⟩
              · repeat walk_at "j"
                refine rc_all (bs := t.map fun d => isC d (k + 1)) (by rw [List.map_map]; rfl) ?_
                simp only [isC, isCt, e, e1, e2, Bool.and_self, Bool.true_and, Bool.false_eq_true, if_false, isCs_all] at q
                exact q
        | _ =>
          repeat walk_at "j"
          exact q
  | _ =>
    repeat walk_at "j"
    exact q

theorem ok_is_condition {P : Program} {w : World} {K : PySem.W.Frag} {mg : Str → Option Value} {base : Heap} {f : Addr} {fd : FuncData} {a_SIZES : Addr} (n : Nat) (F : Fun K "is_condition" "is_condition" s_is_condition f fd) (hb : Blt mg) (hc_MOST_WITHIN : ∃ t, mg "MOST_WITHIN" = some (.int 10 t)) (hc_SIZES : mg "SIZES" = some (.ref a_SIZES)) (hc_THINGS : ∃ t, mg "THINGS" = some (.int 8 t)) (c_is_condition : Cal P w K mg base (n + 0) "is_condition" q_is_condition (spD (P_is_condition n))) (kt : KTab K w a_SIZES sizeW W7) : FnOk P w K mg base CX0 (n + 0 + 1) f fd q_is_condition (spD (P_is_condition (n + 1))) := by
  refine fnD F sc_is_condition len_is_condition (t := t_is_condition K w a_SIZES n) (fun cdv A outer s H E hr => ?_) (w_is_condition n kt)
  have hu64 := hr.units
  have hu := hu_of hr
  exact (pss_cons (ps_if (PW.pt (pw_or (pt_not (pt_val (pe_callB call_isi (by rfl) hb.isinstance (by decide +kernel) (pa_cons (pv 0) (pa_cons (pe_bltn (by rfl) hb.tuple (by decide +kernel) rfl) pa_nil))))) (pw_or (pt_cmpR (op_eqM hu64) (pv 0) (pe_tup pa_nil) (nomark _)) (pw_or1 (pt_cmpR op_gtU (pv 1) (pe_globI rfl hc_MOST_WITHIN) (nomark _)))))) (pss_one (ps_ret pe_bl)) pss_nil)
    (pss_cons (ps_if (PW.pt (pw_or (pt_not (pt_val (pe_callB call_isi (by rfl) hb.isinstance (by decide +kernel) (pa_cons (pe_ix ix_seq (pv 0) pe_int (fun _ _ => rfl)) (pa_cons (pe_bltn (by rfl) hb.str (by decide +kernel) rfl) pa_nil))))) (pw_or1 (pt_cmpR (op_neD hu64) (pe_kget2 (pe_glob rfl hc_SIZES rfl) (pe_ix ix_seq (pv 0) pe_int (fun _ _ => rfl)) pe_int ⟨rfl, rfl, rfl, rfl⟩) (pe_callB call_lenU (by rfl) hb.len (by decide +kernel) (pa_cons (pv 0) pa_nil)) (nomark _))))) (pss_one (ps_ret pe_bl)) pss_nil)
    (pss_cons (ps_if (pt_cmpR (op_eqD hu64) (pe_ix ix_seq (pv 0) pe_int (fun _ _ => rfl)) pe_str (nomark _)) (pss_one (ps_ret (pe_and (pe_callB call_isi (by rfl) hb.isinstance (by decide +kernel) (pa_cons (pe_ix ix_seq (pv 0) pe_int (fun _ _ => rfl)) (pa_cons (pe_bltn (by rfl) hb.int (by decide +kernel) rfl) pa_nil))) (pe_and (pe_not (pe_callB call_isi (by rfl) hb.isinstance (by decide +kernel) (pa_cons (pe_ix ix_seq (pv 0) pe_int (fun _ _ => rfl)) (pa_cons (pe_bltn (by rfl) hb.bool (by decide +kernel) rfl) pa_nil)))) (pe_one (pe_chain op_leU op_ltU pe_int (pe_ix ix_seq (pv 0) pe_int (fun _ _ => rfl)) (pe_globI rfl hc_THINGS))))))) pss_nil)
    (pss_one (ps_ret (pe_callB (cr_all rfl) (by rfl) hb.all (by decide +kernel) (pa_cons (pe_lc (own := [("one", 2)]) (by rfl) sc_is_condition.nd (pi_seq (pe_slice sl_U (pv 0) (po_some pe_int) po_none)) (blkOk_by (own := [("one", 2)]) (N := n_is_condition) (sc := defScope s_is_condition) (by decide +kernel)) (fun _ _ _ _ _ => (pg_name (i := 2) sc_is_condition.nd rfl (Or.inl rfl))) (fun _ _ _ _ _ => pts_nil) (fun _ _ _ _ _ => (pe_callC c_is_condition (hr.mono (by omega)) rfl (pa_cons (pv 2) (pa_cons (pe_op op_addU (pv 1) pe_int) pa_nil))))) pa_nil)))))))

theorem all_is_condition {P : Program} {w : World} {K : PySem.W.Frag} {mg : Str → Option Value} {base : Heap} {a_SIZES : Addr} {f_is_condition : Addr} {d_is_condition : FuncData} (F_is_condition : Fun K "is_condition" "is_condition" s_is_condition f_is_condition d_is_condition) (m_is_condition : mg "is_condition" = some (.ref f_is_condition)) (B_is_condition : Binds K d_is_condition q_is_condition []) (hb : Blt mg) (hc_MOST_WITHIN : ∃ t, mg "MOST_WITHIN" = some (.int 10 t)) (hc_SIZES : mg "SIZES" = some (.ref a_SIZES)) (hc_THINGS : ∃ t, mg "THINGS" = some (.int 8 t)) (kt : KTab K w a_SIZES sizeW W7) : ∀ n : Nat, Cal P w K mg base (n + 0) "is_condition" q_is_condition (spD (P_is_condition n))
  | 0 => cal_zero F_is_condition.kp m_is_condition B_is_condition zero_is_condition
  | n + 1 => by
    have c_is_condition := all_is_condition (P := P) (w := w) (base := base) F_is_condition m_is_condition B_is_condition hb hc_MOST_WITHIN hc_SIZES hc_THINGS kt n
    have e : n + 1 + 0 = n + 0 + 1 := by omega
    rw [e]
    exact ⟨_, _, m_is_condition, F_is_condition.kp, B_is_condition, ok_is_condition n F_is_condition hb hc_MOST_WITHIN hc_SIZES hc_THINGS c_is_condition kt⟩

/-! ### looks_in -/
abbrev s_looks_in : Stmt := top 16
abbrev n_looks_in : List Str := ["part", "one"]
abbrev q_looks_in : List Str := ["part"]
theorem sc_looks_in : FnScope n_looks_in q_looks_in (defScope s_looks_in) := ⟨rfl, rfl, rfl, by decide +kernel, rfl, by decide +kernel, by decide +kernel⟩

def P_looks_in (n : Nat) : Pre := fun ds Ψ => ∃ c : Cn, ds = [c.D] ∧ c.deep < n ∧ Ψ (.int c.looks)
theorem len_looks_in {n : Nat} : ∀ ds Ψ, P_looks_in n ds Ψ → ds.length = 1 := fun ds Ψ ⟨_, e, _⟩ => by rw [e]; rfl
theorem zero_looks_in : ∀ vs H Q E, ¬ spD (P_looks_in 0) vs H Q E := zeroD fun ds Ψ ⟨_, _, h, _⟩ => absurd h (Nat.not_lt_zero _)

def t_looks_in (K : PySem.W.Frag) (n : Nat) : TS :=
  (tRet (tIf (tTest (tOp (rEqD K) (tOp (rIx K) (tVar 0) (tC (.int 0))) (tC (.str "look")))) (tC (.int 1)) (tCB (rSum K) (tCons (tLc (iSeq K (tSl (rSlU K) (tVar 0) (tPart (tC (.int 1))) tNoPart)) (gName 1) tYes (tCall (spD (P_looks_in n)) [] E0 (tCons (tVar 1) tNil)) [1]) tNil))))

theorem w_looks_in (n : Nat) {K : PySem.W.Frag} : ∀ ds Ψ, P_looks_in (n + 1) ds Ψ → WS uS (t_looks_in K n) () (init n_looks_in ds) (fun x _ => Ψ x) (fun _ _ => Ψ .none) := by
  rintro ds Ψ ⟨c, rfl, hd, q⟩
  unfold t_looks_in
  cases c with
  | look i =>
    unfold Cn.D
    repeat walk_at "j"
    exact q
  | nt c =>
    have hd : c.deep + 1 < n + 1 := hd
    unfold Cn.D
    repeat walk_at "j"
    walk_at "js"
    repeat walk_at "j"
    refine ⟨c, rfl, by omega, ?_⟩
    repeat walk_at "j"
    refine rc_sum (ns := [(c.looks : Int)]) rfl ?_
    simpa [Cn.looks] using q
  | pr b x y =>
    have hd : max x.deep y.deep + 1 < n + 1 := hd
    cases b <;> unfold Cn.D
    all_goals
      repeat walk_at "j"
      walk_at "js"
      repeat walk_at "j"
      refine ⟨x, rfl, by omega, ?_⟩
      repeat walk_at "j"
      refine ⟨y, rfl, by omega, ?_⟩
      repeat walk_at "j"
      refine rc_sum (ns := [(x.looks : Int), (y.looks : Int)]) rfl ?_
      simpa [Cn.looks] using q

theorem ok_looks_in {P : Program} {w : World} {K : PySem.W.Frag} {mg : Str → Option Value} {base : Heap} {f : Addr} {fd : FuncData}  (n : Nat) (F : Fun K "looks_in" "looks_in" s_looks_in f fd) (hb : Blt mg) (c_looks_in : Cal P w K mg base (n + 0) "looks_in" q_looks_in (spD (P_looks_in n)))  : FnOk P w K mg base CX0 (n + 0 + 1) f fd q_looks_in (spD (P_looks_in (n + 1))) := by
  refine fnD F sc_looks_in len_looks_in (t := t_looks_in K n) (fun cdv A outer s H E hr => ?_) (w_looks_in n )
  have hu64 := hr.units
  have hu := hu_of hr
  exact (pss_one (ps_ret (pe_ifExp (pt_cmpR (op_eqD hu64) (pe_ix ix_seq (pv 0) pe_int (fun _ _ => rfl)) pe_str (nomark _)) pe_int (pe_callB (cr_sum rfl) (by rfl) hb.sum (by decide +kernel) (pa_cons (pe_lc (own := [("one", 1)]) (by rfl) sc_looks_in.nd (pi_seq (pe_slice sl_U (pv 0) (po_some pe_int) po_none)) (blkOk_by (own := [("one", 1)]) (N := n_looks_in) (sc := defScope s_looks_in) (by decide +kernel)) (fun _ _ _ _ _ => (pg_name (i := 1) sc_looks_in.nd rfl (Or.inl rfl))) (fun _ _ _ _ _ => pts_nil) (fun _ _ _ _ _ => (pe_callC c_looks_in (hr.mono (by omega)) rfl (pa_cons (pv 1) pa_nil)))) pa_nil)))))

theorem all_looks_in {P : Program} {w : World} {K : PySem.W.Frag} {mg : Str → Option Value} {base : Heap}  {f_looks_in : Addr} {d_looks_in : FuncData} (F_looks_in : Fun K "looks_in" "looks_in" s_looks_in f_looks_in d_looks_in) (m_looks_in : mg "looks_in" = some (.ref f_looks_in)) (B_looks_in : Binds K d_looks_in q_looks_in []) (hb : Blt mg)  : ∀ n : Nat, Cal P w K mg base (n + 0) "looks_in" q_looks_in (spD (P_looks_in n))
  | 0 => cal_zero F_looks_in.kp m_looks_in B_looks_in zero_looks_in
  | n + 1 => by
    have c_looks_in := all_looks_in (P := P) (w := w) (base := base) F_looks_in m_looks_in B_looks_in hb  n
    have e : n + 1 + 0 = n + 0 + 1 := by omega
    rw [e]
    exact ⟨_, _, m_looks_in, F_looks_in.kp, B_looks_in, ok_looks_in n F_looks_in hb c_looks_in⟩

/-! ### need_condition -/
abbrev s_need_condition : Stmt := top 17
abbrev n_need_condition : List Str := ["part"]
abbrev q_need_condition : List Str := ["part"]
theorem sc_need_condition : FnScope n_need_condition q_need_condition (defScope s_need_condition) := ⟨rfl, rfl, rfl, by decide +kernel, rfl, by decide +kernel, by decide +kernel⟩

def P_needcX (a_BadCondition : Addr) : PreX := fun ds Ψ Ξ => ∃ c : Cn, ds = [c.D] ∧ c.ok ∧ (¬ (c.deep ≤ 10 ∧ c.looks ≤ 12) → Ξ a_BadCondition none) ∧ (c.deep ≤ 10 ∧ c.looks ≤ 12 → Ψ .none)
theorem len_need_condition {a_BadCondition : Addr} : ∀ ds Ψ Ξ, P_needcX a_BadCondition ds Ψ Ξ → ds.length = 1 := fun ds Ψ Ξ ⟨_, e, _⟩ => by rw [e]; rfl

def t_need_condition (K : PySem.W.Frag) (E : XK) (a_BadCondition : Addr) : TS :=
  (tIfS (tOr (tNot (tB (tCall (spD (P_is_condition 13)) [] E0 (tCons (tVar 0) (tCons (tC (.int 0)) tNil))))) (tTest (tOp rGtI (tCall (spD (P_looks_in 30)) [] E0 (tCons (tVar 0) tNil)) (tC (.int 12))))) (tRaiseO E a_BadCondition) tNext)

theorem w_need_condition {K : PySem.W.Frag} {aC : Addr} : ∀ E ds Ψ Ξ, P_needcX aC ds Ψ Ξ → WS (xS E Ξ) (t_need_condition K E aC) () (init n_need_condition ds) (fun x _ => Ψ x) (fun _ _ => Ψ .none) := by
  rintro E ds Ψ Ξ ⟨c, rfl, ok, x, q⟩
  unfold t_need_condition
  repeat walk_at "j"
  refine ⟨c.D, 0, rfl, by omega, by omega, by omega, okD_D c, c.lay, ?_⟩
  by_cases h : c.deep ≤ 10
  · rw [(isC_D c 0).mpr ⟨ok, by omega⟩]
    repeat walk_at "j"
    refine ⟨c, rfl, by omega, ?_⟩
    repeat walk_at "j"
    refine ifD (fun h2 => ?_) (fun h2 => ?_)
    · refine ws_raiseO rfl ?_
      exact x fun z => by omega
    · repeat walk_at "j"
      exact q ⟨h, by omega⟩
  · have e : isC c.D 0 = false := by
      rw [Bool.eq_false_iff]
      intro z
      have := (isC_D c 0).mp z
      omega
    rw [e]
    repeat walk_at "j"
    refine ws_raiseO rfl ?_
    exact x fun z => h z.1

theorem ok_need_condition {P : Program} {w : World} {K : PySem.W.Frag} {mg : Str → Option Value} {base : Heap} {f : Addr} {fd : FuncData} {a_BadCondition : Addr} (F : Fun K "need_condition" "need_condition" s_need_condition f fd) (hb : Blt mg) (hc_MOST_LOOKS : ∃ t, mg "MOST_LOOKS" = some (.int 12 t)) (hc_BadCondition : mg "BadCondition" = some (.ref a_BadCondition)) (c_is_condition : Cal P w K mg base 13 "is_condition" q_is_condition (spD (P_is_condition 13))) (c_looks_in : Cal P w K mg base 30 "looks_in" q_looks_in (spD (P_looks_in 30))) (ho_BadCondition : ExcO K a_BadCondition)  : FnOk P w K mg base (L2.CX P w) 31 f fd q_need_condition (spX (P_needcX a_BadCondition)) := by
  refine fnX F sc_need_condition len_need_condition (t := fun E => t_need_condition K E a_BadCondition) (fun cdv A outer s H E hr => ?_) (w_need_condition )
  have hu64 := hr.units
  have hu := hu_of hr
  exact (pss_one (ps_if (PW.pt (pw_or (pt_not (pt_val (pe_callC c_is_condition (hr.mono (by omega)) rfl (pa_cons (pv 0) (pa_cons pe_int pa_nil))))) (pw_or1 (pt_cmpR op_gtU (pe_callC c_looks_in (hr.mono (by omega)) rfl (pa_cons (pv 0) pa_nil)) (pe_globI rfl hc_MOST_LOOKS) (nomark _))))) (pss_one (ps_raiseO rfl (takes_of rfl rfl rfl rfl) ho_BadCondition hc_BadCondition rfl)) pss_nil))

/-! ### need_text -/
abbrev s_need_text : Stmt := top 20
abbrev n_need_text : List Str := ["text", "deep", "behind", "place", "sign", "good"]
abbrev q_need_text : List Str := ["text"]
theorem sc_need_text : FnScope n_need_text q_need_text (defScope s_need_text) := ⟨rfl, rfl, rfl, by decide +kernel, rfl, by decide +kernel, by decide +kernel⟩

def P_needtX (a_BadText : Addr) : PreX := fun ds Ψ Ξ => ∃ l : List Nat, ds = [.str (tx l)] ∧ (∀ c ∈ l, c < 128) ∧ l.length ≤ 10000 ∧ (∀ k : Nat, badT l = some k → Ξ a_BadText (some (k : Int))) ∧ (badT l = none → Ψ .none)
theorem len_need_text {a_BadText : Addr} : ∀ ds Ψ Ξ, P_needtX a_BadText ds Ψ Ξ → ds.length = 1 := fun ds Ψ Ξ ⟨_, e, _⟩ => by rw [e]; rfl

def nt3_need (K : PySem.W.Frag) (E : XK) (a_BadText : Addr) : TS :=
  (tSeq (tAsg (tOp rSubI (tOp (rAddU K) (tVar 1) (tCB rInt (tCons (tOp (rEqD K) (tVar 4) (tC (.str "("))) tNil))) (tCB rInt (tCons (tOp (rEqD K) (tVar 4) (tC (.str ")"))) tNil))) (gName 1))
  (tAsg (tOp (rInU K) (tVar 4) (tOp (rAddU K) (tC (.str "abcdefgh")) (tC (.str ")")))) (gName 2)))

def nt2_need (K : PySem.W.Frag) (E : XK) (a_BadText : Addr) : TS :=
  (tSeq (tIfS (tNot (tB (tVar 5))) (tRaiseP K E a_BadText (tCons (tVar 3) tNil)) tNext)
  (nt3_need K E a_BadText))

def nt4_need (K : PySem.W.Frag) (E : XK) (a_BadText : Addr) : TS :=
  (tRaiseP K E a_BadText (tCons (tCB (rLenU K) (tCons (tVar 0) tNil)) tNil))

def t_need_text (K : PySem.W.Frag) (E : XK) (a_BadText : Addr) : TS :=
  (tSeq (tAsg (tC (.int 0)) (gName 1))
  (tSeq (tAsg (tC (.bl false)) (gName 2))
  (tSeq (tFor (iEnumS (tCons (tVar 0) tNil)) (gTup K 2 (gCons (gName 3) (gCons (gName 4) gNil))) (tSeq (tAsg (tIf (tB (tVar 2)) (tOrV (tOp (rInU K) (tVar 4) (tC (.str "&|"))) (tAndV (tOp (rEqD K) (tVar 4) (tC (.str ")"))) (tOp rGtI (tVar 1) (tC (.int 0))))) (tOp (rInU K) (tVar 4) (tOp (rAddU K) (tC (.str "abcdefgh")) (tC (.str "!("))))) (gName 5))
  (nt2_need K E a_BadText)))
  (tIfS (tOr (tNot (tB (tVar 2))) (tTest (tOp rGtI (tVar 1) (tC (.int 0))))) (nt4_need K E a_BadText) tNext))))

theorem w_nt3_need {K : PySem.W.Frag} {E : XK} {aT : Addr} {Ξ : Addr → Option Int → Prop} {l : List Nat} {d c : Nat} {b : Bool} {y : Nat × Bool} {w3 w5 : Option W} (hy : stepT (d, b) c = some y) {R : PyData → Unit → Prop} {N : DEnv → Unit → Prop}
    (hN : ∀ ρ, LeE [some (.d (.str (tx l))), some (.d (.int (y.1 : Int))), some (.d (.bool y.2)), none, none, none] ρ → N ρ ()) :
    WS (xS E Ξ) (nt3_need K E aT) () [some (.d (.str (tx l))), some (.d (.int (d : Int))), some (.d (.bool b)), w3, some (.d (.str (tx [c]))), w5] R N := by
  obtain ⟨h1, h2⟩ := step_is hy
  have hs : c < 128 := by
    have := scan_small (l := [c]) (a := (d, b)) (b := y) (by show (stepT (d, b) c).bind (scanT []) = _; rw [hy]; rfl) c (by simp)
    exact this
  unfold nt3_need
  repeat walk_at "j"
  rw [s_open]
  refine rd_eqW (tx1_ok hs) (tx1_ok (by decide)) ?_
  rw [tx1_eq]
  repeat walk_at "j"
  rw [s_close]
  refine rd_eqW (tx1_ok hs) (tx1_ok (by decide)) ?_
  rw [tx1_eq]
  repeat walk_at "j"
  refine rd_addS (by decide +kernel) ?_
  refine rd_inS ?_
  rw [← s_close, mem_bh, ← h1]
  have e : (d : Int) + (if decide (c = 40) = true then 1 else 0) - (if decide (c = 41) = true then 1 else 0) = (y.1 : Int) := by
    rw [h2]
    simp
  rw [e]
  repeat walk_at "j"
  refine hN _ ?_
  repeat constructor
theorem w_nt2_need {K : PySem.W.Frag} {E : XK} {aT : Addr} {Ξ : Addr → Option Int → Prop} {l : List Nat} {d c i : Nat} {b : Bool} (TC : OexC K aT) (hno : PySem.W.findIn K (.ref aT) "place" = some none) (hbad : stepT (d, b) c = none → Ξ aT (some (i : Int))) {R : PyData → Unit → Prop} {N : DEnv → Unit → Prop}
    (hN : ∀ y, stepT (d, b) c = some y → ∀ ρ, LeE [some (.d (.str (tx l))), some (.d (.int (y.1 : Int))), some (.d (.bool y.2)), none, none, none] ρ → N ρ ()) :
    WS (xS E Ξ) (nt2_need K E aT) () [some (.d (.str (tx l))), some (.d (.int (d : Int))), some (.d (.bool b)), some (.d (.int (i : Int))), some (.d (.str (tx [c]))), some (.d (.bool (goodT (d, b) c)))] R N := by
  have hg := step_good (d := d) (c := c) (b := b)
  unfold nt2_need
  repeat walk_at "j"
  cases e : stepT (d, b) c with
  | none =>
    rw [e] at hg
    rw [← hg]
    repeat walk_at "j"
    refine ws_raiseP rfl TC hno ?_
    repeat walk_at "j"
    exact hbad e
  | some y =>
    rw [e] at hg
    rw [← hg]
    repeat walk_at "j"
    exact w_nt3_need e (hN y e)
theorem w_need_text {K : PySem.W.Frag} {aT : Addr} (TC : OexC K aT) (hno : PySem.W.findIn K (.ref aT) "place" = some none) : ∀ E ds Ψ Ξ, P_needtX aT ds Ψ Ξ → WS (xS E Ξ) (t_need_text K E aT) () (init n_need_text ds) (fun x _ => Ψ x) (fun _ _ => Ψ .none) := by
  rintro E ds Ψ Ξ ⟨l, rfl, hA, hl, hbad, q⟩
  unfold t_need_text
  repeat walk_at "j"
  refine ws_for_enumS (fun a : Nat × Bool => [some (.d (.str (tx l))), some (.d (.int (a.1 : Int))), some (.d (.bool a.2)), none, none, none]) (fun i a => scanT (l.take i) (0, false) = some a) (0, false) ?_
  repeat walk_at "j"
  refine ⟨by repeat constructor, rfl, fun i c s' a hc hJ => ?_, fun s' a hJ => ?_⟩
  · have hs : c < 128 := hA c (List.mem_of_getElem? hc)
    obtain ⟨d, b⟩ := a
    have fin : ∀ {g : Bool}, g = goodT (d, b) c → WS (xS E Ξ) (nt2_need K E aT) () [some (.d (.str (tx l))), some (.d (.int (d : Int))), some (.d (.bool b)), some (.d (.int (i : Int))), some (.d (.str (tx [c]))), some (.d (.bool g))] (fun x _ => Ψ x) (fun ρ' _ => ∃ a' : Nat × Bool, scanT (l.take (i + 1)) (0, false) = some a' ∧ LeE [some (.d (.str (tx l))), some (.d (.int (a'.1 : Int))), some (.d (.bool a'.2)), none, none, none] ρ') := fun e => by
      rw [e]
      rcases badT_at hJ hc with ⟨h1, h2⟩ | ⟨y, h1, h2⟩
      · exact w_nt2_need TC hno (fun _ => hbad i h2) fun y h => by rw [h1] at h; cases h
      · exact w_nt2_need TC hno (fun h => by rw [h1] at h; cases h) fun y' h ρ le => by rw [h1] at h; cases h; exact ⟨y, h2, le⟩
    dsimp only
    cases b with
    | true =>
      repeat walk_at "j"
      refine rd_inS ?_
      rw [mem_op]
      cases h1 : (c == 38 || c == 124) with
      | true =>
        repeat walk_at "j"
        exact fin (by unfold goodT; rw [if_pos rfl, h1]; rfl)
      | false =>
        repeat walk_at "j"
        rw [s_close]
        refine rd_eqW (tx1_ok hs) (tx1_ok (by decide)) ?_
        rw [tx1_eq]
        by_cases h2 : c = 41
        · rw [decide_eq_true h2]
          repeat walk_at "j"
          refine fin ?_
          unfold goodT
          rw [if_pos rfl, h1, h2]
          simp
        · rw [decide_eq_false h2]
          repeat walk_at "j"
          refine fin ?_
          unfold goodT
          rw [if_pos rfl, h1]
          simp [h2]
    | false =>
      repeat walk_at "j"
      refine rd_addS (by decide +kernel) ?_
      refine rd_inS ?_
      rw [mem_st]
      repeat walk_at "j"
      exact fin rfl
  · have he := badT_end (l := l) (by rw [← hJ]; congr 1; rw [show (tx l).length = l.length from tx_len l, List.take_length])
    obtain ⟨d, b⟩ := a
    have bad : (d, b) ≠ (0, true) → WS (xS E Ξ) (nt4_need K E aT) () [some (.d (.str (tx l))), some (.d (.int (d : Int))), some (.d (.bool b)), none, none, none] (fun x _ => Ψ x) (fun _ _ => Ψ .none) := fun h => by
      unfold nt4_need
      rw [if_neg h] at he
      refine ws_raiseP rfl TC hno ?_
      repeat walk_at "j"
      refine rc_lenS (by rw [tx_len]; omega) ?_
      exact ⟨_, rfl, by rw [tx_len]; exact hbad _ he⟩
    dsimp only
    cases b with
    | false =>
      repeat walk_at "j"
      exact bad (by simp)
    | true =>
      repeat walk_at "j"
      refine ifD (fun h => ?_) (fun h => ?_)
      · exact bad (by simp; omega)
      · have e0 : d = 0 := by omega
        subst e0
        repeat walk_at "j"
        exact q (by rw [he, if_pos rfl])

theorem ok_need_text {P : Program} {w : World} {K : PySem.W.Frag} {mg : Str → Option Value} {base : Heap} {f : Addr} {fd : FuncData} {a_BadText : Addr} (F : Fun K "need_text" "need_text" s_need_text f fd) (hb : Blt mg) (hc_LETTERS : ∃ t, mg "LETTERS" = some (.str "abcdefgh" t)) (hc_BadText : mg "BadText" = some (.ref a_BadText)) (hp_BadText : ExcP P w K mg base a_BadText)  : FnOk P w K mg base (L2.CX P w) 3 f fd q_need_text (spX (P_needtX a_BadText)) := by
  refine fnX F sc_need_text len_need_text (t := fun E => t_need_text K E a_BadText) (fun cdv A outer s H E hr => ?_) (w_need_text hp_BadText.T hp_BadText.no)
  have hu64 := hr.units
  have hu := hu_of hr
  exact (pss_cons (ps_set (i := 1) sc_need_text.nd rfl (Or.inl rfl) pe_int)
    (pss_cons (ps_set (i := 2) sc_need_text.nd rfl (Or.inl rfl) pe_bl)
    (pss_cons (ps_for (passes_of rfl) rfl (pi_enumS (by rfl) hb.enumerate (pa_cons (pv 0) pa_nil)) (pg_tup rfl (pgs_cons (pg_name (i := 3) sc_need_text.nd rfl (Or.inl rfl)) (pgs_cons (pg_name (i := 4) sc_need_text.nd rfl (Or.inl rfl)) pgs_nil))) (pss_cons (ps_set (i := 5) sc_need_text.nd rfl (Or.inl rfl) (pe_ifExp (pt_val (pv 2)) (pe_or (pe_cmpR op_inU (pv 4) pe_str (by with_unfolding_all rfl)) (pe_one (pe_and (pe_cmpR (op_eqD hu64) (pv 4) pe_str (nomark _)) (pe_one (pe_cmpR op_gtU (pv 1) pe_int (nomark _)))))) (pe_cmpR op_inU (pv 4) (pe_op op_addU (pe_globS rfl hc_LETTERS) pe_str) (by with_unfolding_all rfl))))
    (pss_cons (ps_if (pt_not (pt_val (pv 5))) (pss_one (ps_raiseP rfl (takes_of rfl rfl rfl rfl) hp_BadText hc_BadText (hr.mono (by omega)) rfl (pa_cons (pv 3) pa_nil))) pss_nil)
    (pss_cons (ps_set (i := 1) sc_need_text.nd rfl (Or.inl rfl) (pe_op op_subU (pe_op op_addU (pv 1) (pe_callTy call_intU (by rfl) hb.int (by decide +kernel) (pa_cons (pe_cmpR (op_eqD hu64) (pv 4) pe_str (nomark _)) pa_nil))) (pe_callTy call_intU (by rfl) hb.int (by decide +kernel) (pa_cons (pe_cmpR (op_eqD hu64) (pv 4) pe_str (nomark _)) pa_nil))))
    (pss_one (ps_set (i := 2) sc_need_text.nd rfl (Or.inl rfl) (pe_cmpR op_inU (pv 4) (pe_op op_addU (pe_globS rfl hc_LETTERS) pe_str) (by with_unfolding_all rfl))))))))
    (pss_one (ps_if (PW.pt (pw_or (pt_not (pt_val (pv 2))) (pw_or1 (pt_cmpR op_gtU (pv 1) pe_int (nomark _))))) (pss_one (ps_raiseP rfl (takes_of rfl rfl rfl rfl) hp_BadText hc_BadText (hr.mono (by omega)) rfl (pa_cons (pe_callB call_lenU (by rfl) hb.len (by decide +kernel) (pa_cons (pv 0) pa_nil)) pa_nil))) pss_nil)))))

/-! ### Reader___init__ -/
abbrev s_Reader___init__ : Stmt := (clsB (top 21)).getD 0 (.Pass ⟨0, 0, 0, 0⟩)
abbrev n_Reader___init__ : List Str := ["self", "text"]
abbrev q_Reader___init__ : List Str := ["self", "text"]
theorem sc_Reader___init__ : FnScope n_Reader___init__ q_Reader___init__ (defScope s_Reader___init__) := ⟨rfl, rfl, rfl, by decide +kernel, rfl, by decide +kernel, by decide +kernel⟩


def t_Reader___init__ (K : PySem.W.Frag) (a_Reader : Addr) : TS :=
  (tSeq (sFld K (tVar 0) (tVar 1) "text")
  (sFld K (tVar 0) (tC (.int 0)) "place"))


theorem ok_Reader___init__ {P : Program} {w : World} {K : PySem.W.Frag} {mg : Str → Option Value} {base : Heap} {f : Addr} {fd : FuncData} {a_Reader : Addr} (F : Fun K "__init__" "Reader.__init__" s_Reader___init__ f fd) (hb : Blt mg) (hc_Reader : mg "Reader" = some (.ref a_Reader)) (cl_Reader : Cls K a_Reader) (n1_Reader : NoAttr K a_Reader "text") (n2_Reader : NoAttr K a_Reader "place") : FnOk P w K mg base CX0 1 f fd q_Reader___init__ (spRini a_Reader) := by
  refine fnRini F sc_Reader___init__ cl_Reader n1_Reader n2_Reader (fun cdv A outer s H E hr => ?_)
  have hu64 := hr.units
  exact (pss_cons (ps_fld (pv 0) (pv 1) (by rfl))
    (pss_one (ps_fld (pv 0) pe_int (by rfl))))

/-! ### Reader_is_next -/
abbrev s_Reader_is_next : Stmt := (clsB (top 21)).getD 1 (.Pass ⟨0, 0, 0, 0⟩)
abbrev n_Reader_is_next : List Str := ["self", "sign"]
abbrev q_Reader_is_next : List Str := ["self", "sign"]
theorem sc_Reader_is_next : FnScope n_Reader_is_next q_Reader_is_next (defScope s_Reader_is_next) := ⟨rfl, rfl, rfl, by decide +kernel, rfl, by decide +kernel, by decide +kernel⟩

def P_is_next : PreR := fun z p ds Ψ => ∃ (l : List Nat) (sg : Nat), z = tx l ∧ ds = [.str (tx [sg])] ∧ p ≤ l.length ∧ l.length ≤ 10000 ∧ sg < 128 ∧ (∀ c ∈ l, c < 128) ∧ Ψ (.bool (decide (l[p]? = some sg))) p
theorem len_Reader_is_next : ∀ z p ds Ψ, P_is_next z p ds Ψ → ds.length + 1 = q_Reader_is_next.length := fun z p ds Ψ ⟨_, _, _, e, _⟩ => by rw [e]; rfl
theorem cut_one {l : List Nat} {p : Nat} (h : p ≤ l.length) : cutS (tx l) (some (p : Int)) (some ((p : Int) + 1)) = tx ((l.drop p).take 1) := by
  have e1 : HT.sIx (tx l).length 0 (some (p : Int)) = p := by
    have h1 := HT.sIx_nat (tx l).length 0 p
    rw [tx_len, Nat.min_eq_left h] at h1
    rw [tx_len]; exact h1
  have e2 : HT.sIx (tx l).length (tx l).length (some ((p : Int) + 1)) = min (p + 1) l.length := by
    have h1 := HT.sIx_nat (tx l).length (tx l).length (p + 1)
    rw [tx_len] at h1
    rw [tx_len, show ((p : Int) + 1) = ((p + 1 : Nat) : Int) from by omega]
    exact h1
  unfold cutS
  rw [e1, e2, tx_cps]
  show tx _ = _
  congr 1
  by_cases hp : p < l.length
  · rw [Nat.min_eq_left (by omega), Nat.add_sub_cancel_left]
  · rw [List.drop_eq_nil_of_le (by omega)]
    simp
theorem one_eq {l : List Nat} {p sg : Nat} : (tx ((l.drop p).take 1) == tx [sg]) = decide (l[p]? = some sg) := by
  cases e : l[p]? with
  | none =>
    rw [List.drop_eq_nil_of_le (List.getElem?_eq_none_iff.mp e)]
    rw [decide_eq_false (by simp)]
    exact beq_eq_false_iff_ne.mpr fun z => by have := tx_inj z; simp at this
  | some c =>
    obtain ⟨hi, hc⟩ := List.getElem?_eq_some_iff.mp e
    rw [List.drop_eq_getElem_cons hi, hc, List.take_succ_cons, List.take_zero, tx1_eq]
    simp

def t_Reader_is_next (K : PySem.W.Frag) (a_Reader : Addr) : TS :=
  (tRet (tOp (rEqD K) (tSl (rSlU K) (tFld K (tVar 0) "text") (tPart (tFld K (tVar 0) "place")) (tPart (tOp (rAddU K) (tFld K (tVar 0) "place") (tC (.int 1))))) (tVar 1)))

theorem w_Reader_is_next {K : PySem.W.Frag} {C : Addr} (cl : Cls K C) (n1 : NoAttr K C "text") (n2 : NoAttr K C "place") : ∀ r dx z p ds Ψ, P_is_next z p ds Ψ → WS (rdS r C dx z) (t_Reader_is_next K C) p (initR r n_Reader_is_next ds) (fun x p' => Ψ x p') (fun _ p' => Ψ .none p') := by
  rintro r dx z p ds Ψ ⟨l, sg, rfl, rfl, hp, hl, hs, hA, q⟩
  unfold t_Reader_is_next
  repeat walk_at "j"
  refine rs_str (by rw [tx_len]; omega) ?_
  rw [cut_one hp]
  repeat walk_at "j"
  refine rd_eqW ?_ (tx1_ok hs) ?_
  · rw [tx_ok, List.all_eq_true]
    intro c hc
    have := hA c (List.mem_of_mem_drop (List.mem_of_mem_take hc))
    exact decide_eq_true (by omega)
  · rw [one_eq]
    exact q

theorem ok_Reader_is_next {P : Program} {w : World} {K : PySem.W.Frag} {mg : Str → Option Value} {base : Heap} {f : Addr} {fd : FuncData} {a_Reader : Addr} (F : Fun K "is_next" "Reader.is_next" s_Reader_is_next f fd) (hb : Blt mg) (hc_Reader : mg "Reader" = some (.ref a_Reader)) (cl_Reader : Cls K a_Reader) (n1_Reader : NoAttr K a_Reader "text") (n2_Reader : NoAttr K a_Reader "place")  : FnOk P w K mg base CX0 1 f fd q_Reader_is_next (spRd a_Reader P_is_next) := by
  refine fnRd F sc_Reader_is_next len_Reader_is_next (t := t_Reader_is_next K a_Reader) (fun cdv A outer s H E hr => ?_) (w_Reader_is_next cl_Reader n1_Reader n2_Reader)
  have hu64 := hr.units
  have hu := hu_of hr
  exact (pss_one (ps_ret (pe_cmpR (op_eqD hu64) (pe_slice sl_U (pe_fld (pv 0) (by rfl)) (po_some (pe_fld (pv 0) (by rfl))) (po_some (pe_op op_addU (pe_fld (pv 0) (by rfl)) pe_int))) (pv 1) (nomark _))))

/-! ### Reader_single -/
abbrev s_Reader_single : Stmt := (clsB (top 21)).getD 2 (.Pass ⟨0, 0, 0, 0⟩)
abbrev n_Reader_single : List Str := ["self", "sign", "found"]
abbrev q_Reader_single : List Str := ["self"]
theorem sc_Reader_single : FnScope n_Reader_single q_Reader_single (defScope s_Reader_single) := ⟨rfl, rfl, rfl, by decide +kernel, rfl, by decide +kernel, by decide +kernel⟩

/-! ### Reader_several -/
abbrev s_Reader_several : Stmt := (clsB (top 21)).getD 3 (.Pass ⟨0, 0, 0, 0⟩)
abbrev n_Reader_several : List Str := ["self", "sign", "found", "other"]
abbrev q_Reader_several : List Str := ["self", "sign"]
theorem sc_Reader_several : FnScope n_Reader_several q_Reader_several (defScope s_Reader_several) := ⟨rfl, rfl, rfl, by decide +kernel, rfl, by decide +kernel, by decide +kernel⟩

/-- the place is at a part, told by l, of the text pre ++ l ++ post -/
structure At (z : Str) (p : Nat) (lv h : Nat) (l post : List Nat) (c : Cn) : Prop where
  is : ∃ pre, z = tx (pre ++ (l ++ post)) ∧ p = pre.length ∧ (pre ++ (l ++ post)).length ≤ 10000 ∧ ∀ x ∈ pre ++ (l ++ post), x < 128
  rd : Rd lv h l c
def P_single (n : Nat) : PreR := fun z p ds Ψ => ∃ (h : Nat) (l post : List Nat) (c : Cn), ds = [] ∧ At z p 2 h l post c ∧ h < n ∧ Ψ c.D (p + l.length)
def P_several (n : Nat) : PreR := fun z p ds Ψ => ∃ (b : Bool) (h : Nat) (l post : List Nat) (c : Cn), ds = [.str (tx [sgOf b])] ∧ At z p (if b = true then 1 else 0) h l post c ∧ h < n ∧ post.head? ≠ some 38 ∧ (b = false → post.head? ≠ some 124) ∧ Ψ c.D (p + l.length)
theorem len_Reader_single {n : Nat} : ∀ z p ds Ψ, P_single n z p ds Ψ → ds.length + 1 = q_Reader_single.length := fun z p ds Ψ ⟨_, _, _, _, e, _⟩ => by rw [e]; rfl
theorem len_Reader_several {n : Nat} : ∀ z p ds Ψ, P_several n z p ds Ψ → ds.length + 1 = q_Reader_several.length := fun z p ds Ψ ⟨_, _, _, _, _, e, _⟩ => by rw [e]; rfl
theorem zero_Reader_single {C : Addr} : ∀ vs H Q E, ¬ spRd C (P_single 0) vs H Q E := zeroR fun z p ds Ψ ⟨_, _, _, _, _, _, h, _⟩ => absurd h (Nat.not_lt_zero _)
theorem zero_Reader_several {C : Addr} : ∀ vs H Q E, ¬ spRd C (P_several 0) vs H Q E := zeroR fun z p ds Ψ ⟨_, _, _, _, _, _, _, h, _⟩ => absurd h (Nat.not_lt_zero _)
theorem at_mid {pre l post : List Nat} {j c : Nat} (h : l[j]? = some c) : (pre ++ (l ++ post))[pre.length + j]? = some c := by
  rw [List.getElem?_append_right (by omega), Nat.add_sub_cancel_left, List.getElem?_append_left (List.getElem?_eq_some_iff.mp h).1, h]

theorem head_tl {h : Nat} {a c : Cn} {r post : List Nat} (t : Tl false h a r c) (h1 : post.head? ≠ some 38) : (r ++ post).head? ≠ some 38 := by
  cases t with
  | nil => exact h1
  | ors g t => simp

def t_Reader_single (K : PySem.W.Frag) (a_Reader : Addr) (n : Nat) : TS :=
  (tSeq (tAsg (tOp (rIx K) (tFld K (tVar 0) "text") (tFld K (tVar 0) "place")) (gName 1))
  (tSeq (sFld K (tVar 0) (tOp (rAddU K) (tFld K (tVar 0) "place") (tC (.int 1))) "place")
  (tSeq (tIfS (tTest (tOp (rEqD K) (tVar 1) (tC (.str "!")))) (tRet (tTup (tCons (tC (.str "not")) (tCons (tMeth a_Reader "single" (spRd a_Reader (P_single n)) [] E0 (tVar 0) tNil) tNil)))) tNext)
  (tSeq (tIfS (tTest (tOp (rNeD K) (tVar 1) (tC (.str "(")))) (tRet (tTup (tCons (tC (.str "look")) (tCons (tBM K "str" rSIdx (tC (.str "abcdefgh")) (tCons (tVar 1) tNil)) tNil)))) tNext)
  (tSeq (tAsg (tMeth a_Reader "several" (spRd a_Reader (P_several n)) [] E0 (tVar 0) (tCons (tC (.str "|")) tNil)) (gName 2))
  (tSeq (sFld K (tVar 0) (tOp (rAddU K) (tFld K (tVar 0) "place") (tC (.int 1))) "place")
  (tRet (tVar 2))))))))

def t_Reader_several (K : PySem.W.Frag) (a_Reader : Addr) (n : Nat) : TS :=
  (tSeq (tAsg (tIf (tTest (tOp (rEqD K) (tVar 1) (tC (.str "|")))) (tMeth a_Reader "several" (spRd a_Reader (P_several n)) [] E0 (tVar 0) (tCons (tC (.str "&")) tNil)) (tMeth a_Reader "single" (spRd a_Reader (P_single n)) [] E0 (tVar 0) tNil)) (gName 2))
  (tSeq (tWhile (tB (tMeth a_Reader "is_next" (spRd a_Reader P_is_next) [] E0 (tVar 0) (tCons (tVar 1) tNil))) (tSeq (sFld K (tVar 0) (tOp (rAddU K) (tFld K (tVar 0) "place") (tC (.int 1))) "place")
  (tSeq (tAsg (tIf (tTest (tOp (rEqD K) (tVar 1) (tC (.str "|")))) (tMeth a_Reader "several" (spRd a_Reader (P_several n)) [] E0 (tVar 0) (tCons (tC (.str "&")) tNil)) (tMeth a_Reader "single" (spRd a_Reader (P_single n)) [] E0 (tVar 0) tNil)) (gName 3))
  (tAsg (tTup (tCons (tIf (tTest (tOp (rEqD K) (tVar 1) (tC (.str "|")))) (tC (.str "or")) (tC (.str "and"))) (tCons (tVar 2) (tCons (tVar 3) tNil)))) (gName 2)))))
  (tRet (tVar 2))))

theorem w_Reader_single (n : Nat) {K : PySem.W.Frag} {C : Addr} (cl : Cls K C) (n1 : NoAttr K C "text") (n2 : NoAttr K C "place") : ∀ r dx z p ds Ψ, P_single (n + 1) z p ds Ψ → WS (rdS r C dx z) (t_Reader_single K C n) p (initR r n_Reader_single ds) (fun x p' => Ψ x p') (fun _ p' => Ψ .none p') := by
  rintro r dx z p ds Ψ ⟨h, l, post, c, rfl, ⟨⟨pre, rfl, rfl, hl, hA⟩, rd⟩, hn, q⟩
  unfold t_Reader_single
  repeat walk_at "j"
  cases rd with
  | look h i hi =>
    refine rd_ixS (c := 97 + i) (by rw [tx_len]; omega) ?_ ?_
    · rw [tx_cps]; exact atI_nat (at_mid (j := 0) rfl)
    repeat walk_at "j"
    rw [s_bang]
    refine rd_eqW (a := tx [97 + i]) (tx1_ok (by omega)) (tx1_ok (by omega)) ?_
    rw [tx1_eq, decide_eq_false (by omega)]
    repeat walk_at "j"
    rw [s_open]
    refine rd_neW (a := tx [97 + i]) (tx1_ok (by omega)) (tx1_ok (by omega)) ?_
    rw [tx1_eq, decide_eq_false (by omega)]
    repeat walk_at "j"
    refine wp_sidx ?_
    repeat walk_at "j"
    obtain ⟨rest, hr⟩ := let_idx hi
    refine ⟨_, i, rest, rfl, hr, ?_⟩
    repeat walk_at "j"
    exact q
  | @nt h l c rd =>
    refine rd_ixS (c := 33) (by rw [tx_len]; omega) ?_ ?_
    · rw [tx_cps]; exact atI_nat (at_mid (j := 0) rfl)
    repeat walk_at "j"
    refine ⟨h, l, post, c, rfl, ⟨⟨pre ++ [33], by simp, by simp, by simpa using hl, by simpa using hA⟩, rd⟩, by omega, ?_⟩
    repeat walk_at "j"
    refine Eq.mp (congrArg (Ψ _) ?_) q
    simp; omega
  | @br h l c rd =>
    refine rd_ixS (c := 40) (by rw [tx_len]; omega) ?_ ?_
    · rw [tx_cps]; exact atI_nat (at_mid (j := 0) rfl)
    repeat walk_at "j"
    refine ⟨false, h, l, 41 :: post, c, by rw [s_or]; rfl, ⟨⟨pre ++ [40], by simp, by simp, by simpa using hl, by simpa using hA⟩, rd⟩, by omega, by simp, by simp, ?_⟩
    repeat walk_at "j"
    refine Eq.mp (congrArg (Ψ _) ?_) q
    simp; omega

theorem w_Reader_several (n : Nat) {K : PySem.W.Frag} {C : Addr} (cl : Cls K C) (n1 : NoAttr K C "text") (n2 : NoAttr K C "place") : ∀ r dx z p ds Ψ, P_several (n + 1) z p ds Ψ → WS (rdS r C dx z) (t_Reader_several K C n) p (initR r n_Reader_several ds) (fun x p' => Ψ x p') (fun _ p' => Ψ .none p') := by
  rintro r dx z p ds Ψ ⟨b, h, l, post, c, rfl, ⟨⟨pre, rfl, rfl, hl, hA⟩, rd⟩, hn, h1, h2, q⟩
  unfold t_Reader_several
  cases b with
  | true =>
    cases rd with
    | @ands h0 l0 r0 a0 _ rd0 t0 =>
    repeat walk_at "j"
    refine ⟨h0, l0, r0 ++ post, a0, rfl, ⟨⟨pre, by simp, rfl, by simpa using hl, by simpa using hA⟩, rd0⟩, by omega, ?_⟩
    repeat walk_at "j"
    refine ws_whileS (α := Cn × List Nat × List Nat) (fun a => [some (.v (.ref r)), some (.d (.str (tx [sgOf true]))), some (.d a.1.D), none])
      (fun a p' => Tl true h0 a.1 a.2.2 c ∧ l0 ++ r0 = a.2.1 ++ a.2.2 ∧ p' = pre.length + a.2.1.length) (fun a => a.2.2.length) (a0, l0, r0) ⟨t0, rfl, rfl⟩ (by repeat constructor) ?_
    rintro ⟨acc, m, rr⟩ s' ⟨t, el, rfl⟩
    dsimp only at t el ⊢
    rw [el] at hl hA q ⊢
    have hlen : (pre ++ (m ++ rr ++ post)).length = pre.length + m.length + rr.length + post.length := by simp; omega
    have hat : (pre ++ (m ++ rr ++ post))[pre.length + m.length]? = (rr ++ post)[0]? := by
      rw [List.getElem?_append_right (by omega), Nat.add_sub_cancel_left, List.append_assoc, List.getElem?_append_right (by omega), Nat.sub_self]
    repeat walk_at "j"
    refine ⟨pre ++ (m ++ rr ++ post), sgOf true, rfl, rfl, by omega, hl, by decide, hA, ?_⟩
    rw [hat]
    cases t with
    | nil =>
      rw [decide_eq_false (fun z => h1 (by rw [List.head?_eq_getElem?]; exact z))]
      repeat walk_at "j"
      refine Eq.mp (congrArg (Ψ _) ?_) q
      simp
    | @ands _ m1 r1 _ d1 _ rd1 t1 =>
      rw [decide_eq_true (show ((38 :: (m1 ++ r1)) ++ post)[0]? = some (sgOf true) from rfl)]
      repeat walk_at "j"
      refine ⟨h0, m1, r1 ++ post, d1, rfl, ⟨⟨pre ++ m ++ [38], by simp, by simp; omega, by simpa using hl, by simpa using hA⟩, rd1⟩, by omega, ?_⟩
      repeat walk_at "j"
      refine ⟨(.pr true acc d1, m ++ 38 :: m1, r1), ⟨t1, by simp, by simp; omega⟩, by simp; omega, ?_⟩
      repeat constructor
  | false =>
    cases rd with
    | @ors h0 l0 r0 a0 _ rd0 t0 =>
    repeat walk_at "j"
    refine ⟨true, h0, l0, r0 ++ post, a0, by rw [s_and]; rfl, ⟨⟨pre, by simp, rfl, by simpa using hl, by simpa using hA⟩, rd0⟩, by omega, head_tl t0 h1, (fun z => nomatch z), ?_⟩
    repeat walk_at "j"
    refine ws_whileS (α := Cn × List Nat × List Nat) (fun a => [some (.v (.ref r)), some (.d (.str (tx [sgOf false]))), some (.d a.1.D), none])
      (fun a p' => Tl false h0 a.1 a.2.2 c ∧ l0 ++ r0 = a.2.1 ++ a.2.2 ∧ p' = pre.length + a.2.1.length) (fun a => a.2.2.length) (a0, l0, r0) ⟨t0, rfl, rfl⟩ (by repeat constructor) ?_
    rintro ⟨acc, m, rr⟩ s' ⟨t, el, rfl⟩
    dsimp only at t el ⊢
    rw [el] at hl hA q ⊢
    have hlen : (pre ++ (m ++ rr ++ post)).length = pre.length + m.length + rr.length + post.length := by simp; omega
    have hat : (pre ++ (m ++ rr ++ post))[pre.length + m.length]? = (rr ++ post)[0]? := by
      rw [List.getElem?_append_right (by omega), Nat.add_sub_cancel_left, List.append_assoc, List.getElem?_append_right (by omega), Nat.sub_self]
    repeat walk_at "j"
    refine ⟨pre ++ (m ++ rr ++ post), sgOf false, rfl, rfl, by omega, hl, by decide, hA, ?_⟩
    rw [hat]
    cases t with
    | nil =>
      rw [decide_eq_false (fun z => h2 rfl (by rw [List.head?_eq_getElem?]; exact z))]
      repeat walk_at "j"
      refine Eq.mp (congrArg (Ψ _) ?_) q
      simp
    | @ors _ m1 r1 _ d1 _ rd1 t1 =>
      rw [decide_eq_true (show ((124 :: (m1 ++ r1)) ++ post)[0]? = some (sgOf false) from rfl)]
      repeat walk_at "j"
      refine ⟨true, h0, m1, r1 ++ post, d1, by rw [s_and]; rfl, ⟨⟨pre ++ m ++ [124], by simp, by simp; omega, by simpa using hl, by simpa using hA⟩, rd1⟩, by omega, head_tl t1 h1, (fun z => nomatch z), ?_⟩
      repeat walk_at "j"
      refine ⟨(.pr false acc d1, m ++ 124 :: m1, r1), ⟨t1, by simp, by simp; omega⟩, by simp; omega, ?_⟩
      repeat constructor

theorem ok_Reader_single {P : Program} {w : World} {K : PySem.W.Frag} {mg : Str → Option Value} {base : Heap} {f : Addr} {fd : FuncData} {a_Reader : Addr} (n : Nat) (F : Fun K "single" "Reader.single" s_Reader_single f fd) (hb : Blt mg) (hc_Reader : mg "Reader" = some (.ref a_Reader)) (hc_LETTERS : ∃ t, mg "LETTERS" = some (.str "abcdefgh" t)) (cl_Reader : Cls K a_Reader) (n1_Reader : NoAttr K a_Reader "text") (n2_Reader : NoAttr K a_Reader "place") (c_Reader_single : CalMD P w K mg base n a_Reader "single" q_Reader_single (spRd a_Reader (P_single n))) (c_Reader_several : CalMD P w K mg base n a_Reader "several" q_Reader_several (spRd a_Reader (P_several n)))  : FnD P w K mg base (n + 1) f fd q_Reader_single (spRd a_Reader (P_single (n + 1))) := by
  refine fnRdD F sc_Reader_single len_Reader_single (t := t_Reader_single K a_Reader n) (fun cdv A outer s H E hr => ?_) (w_Reader_single n cl_Reader n1_Reader n2_Reader)
  have hu64 := hr.units
  have hu := hu_ofD hr
  exact (pss_cons (ps_set (i := 1) sc_Reader_single.nd rfl (Or.inl rfl) (pe_ix ix_seq (pe_fld (pv 0) (by rfl)) (pe_fld (pv 0) (by rfl)) (fun _ _ => rfl)))
    (pss_cons (ps_fld (pv 0) (pe_op op_addU (pe_fld (pv 0) (by rfl)) pe_int) (by rfl))
    (pss_cons (ps_if (pt_cmpR (op_eqD hu64) (pv 1) pe_str (nomark _)) (pss_one (ps_ret (pe_tup (pa_cons pe_str (pa_cons (pe_callMD0 (pv 0) cl_Reader c_Reader_single hr) pa_nil))))) pss_nil)
    (pss_cons (ps_if (pt_cmpR (op_neD hu64) (pv 1) pe_str (nomark _)) (pss_one (ps_ret (pe_tup (pa_cons pe_str (pa_cons (pe_bm PySem.F.plainAttrs_str PySem.F.slot_str_index PySem.F.type_str_index mt_sidx (pe_globS rfl hc_LETTERS) (pa_cons (pv 1) pa_nil)) pa_nil))))) pss_nil)
    (pss_cons (ps_set (i := 2) sc_Reader_single.nd rfl (Or.inl rfl) (pe_callMD (pv 0) cl_Reader c_Reader_several hr (pa_cons pe_str pa_nil)))
    (pss_cons (ps_fld (pv 0) (pe_op op_addU (pe_fld (pv 0) (by rfl)) pe_int) (by rfl))
    (pss_one (ps_ret (pv 2)))))))))

theorem ok_Reader_several {P : Program} {w : World} {K : PySem.W.Frag} {mg : Str → Option Value} {base : Heap} {f : Addr} {fd : FuncData} {a_Reader : Addr} (n : Nat) (F : Fun K "several" "Reader.several" s_Reader_several f fd) (hb : Blt mg) (hc_Reader : mg "Reader" = some (.ref a_Reader)) (cl_Reader : Cls K a_Reader) (n1_Reader : NoAttr K a_Reader "text") (n2_Reader : NoAttr K a_Reader "place") (c_Reader_several : CalMD P w K mg base n a_Reader "several" q_Reader_several (spRd a_Reader (P_several n))) (c_Reader_single : CalMD P w K mg base n a_Reader "single" q_Reader_single (spRd a_Reader (P_single n))) (c_Reader_is_next : CalM P w K mg base 1 a_Reader "is_next" q_Reader_is_next (spRd a_Reader P_is_next))  : FnD P w K mg base (n + 1) f fd q_Reader_several (spRd a_Reader (P_several (n + 1))) := by
  refine fnRdD F sc_Reader_several len_Reader_several (t := t_Reader_several K a_Reader n) (fun cdv A outer s H E hr => ?_) (w_Reader_several n cl_Reader n1_Reader n2_Reader)
  have hu64 := hr.units
  have hu := hu_ofD hr
  exact (pss_cons (ps_set (i := 2) sc_Reader_several.nd rfl (Or.inl rfl) (pe_ifExp (pt_cmpR (op_eqD hu64) (pv 1) pe_str (nomark _)) (pe_callMD (pv 0) cl_Reader c_Reader_several hr (pa_cons pe_str pa_nil)) (pe_callMD0 (pv 0) cl_Reader c_Reader_single hr)))
    (pss_cons (ps_while PassesOwn.never (pt_val (pe_callM (pv 0) cl_Reader c_Reader_is_next (hr.room (by omega)) (pa_cons (pv 1) pa_nil))) (pss_cons (ps_fld (pv 0) (pe_op op_addU (pe_fld (pv 0) (by rfl)) pe_int) (by rfl))
    (pss_cons (ps_set (i := 3) sc_Reader_several.nd rfl (Or.inl rfl) (pe_ifExp (pt_cmpR (op_eqD hu64) (pv 1) pe_str (nomark _)) (pe_callMD (pv 0) cl_Reader c_Reader_several hr (pa_cons pe_str pa_nil)) (pe_callMD0 (pv 0) cl_Reader c_Reader_single hr)))
    (pss_one (ps_set (i := 2) sc_Reader_several.nd rfl (Or.inl rfl) (pe_tup (pa_cons (pe_ifExp (pt_cmpR (op_eqD hu64) (pv 1) pe_str (nomark _)) pe_str pe_str) (pa_cons (pv 2) (pa_cons (pv 3) pa_nil)))))))))
    (pss_one (ps_ret (pv 2)))))

theorem all_Reader_single {P : Program} {w : World} {K : PySem.W.Frag} {mg : Str → Option Value} {base : Heap} {a_Reader : Addr} {f_Reader_single : Addr} {d_Reader_single : FuncData} (F_Reader_single : Fun K "single" "Reader.single" s_Reader_single f_Reader_single d_Reader_single) (m_Reader_single : Meth K a_Reader "single" f_Reader_single) (B_Reader_single : Binds K d_Reader_single q_Reader_single []) {f_Reader_several : Addr} {d_Reader_several : FuncData} (F_Reader_several : Fun K "several" "Reader.several" s_Reader_several f_Reader_several d_Reader_several) (m_Reader_several : Meth K a_Reader "several" f_Reader_several) (B_Reader_several : Binds K d_Reader_several q_Reader_several []) (hb : Blt mg) (hc_Reader : mg "Reader" = some (.ref a_Reader)) (hc_LETTERS : ∃ t, mg "LETTERS" = some (.str "abcdefgh" t)) (cl_Reader : Cls K a_Reader) (n1_Reader : NoAttr K a_Reader "text") (n2_Reader : NoAttr K a_Reader "place") (c_Reader_is_next : CalM P w K mg base 1 a_Reader "is_next" q_Reader_is_next (spRd a_Reader P_is_next)) : ∀ n : Nat, CalMD P w K mg base n a_Reader "single" q_Reader_single (spRd a_Reader (P_single n)) ∧ CalMD P w K mg base n a_Reader "several" q_Reader_several (spRd a_Reader (P_several n))
  | 0 => ⟨calMD_zero m_Reader_single B_Reader_single zero_Reader_single, calMD_zero m_Reader_several B_Reader_several zero_Reader_several⟩
  | n + 1 => by
    have ⟨c_Reader_single, c_Reader_several⟩ := all_Reader_single (P := P) (w := w) (base := base) F_Reader_single m_Reader_single B_Reader_single F_Reader_several m_Reader_several B_Reader_several hb hc_Reader hc_LETTERS cl_Reader n1_Reader n2_Reader c_Reader_is_next n
    skip
    exact ⟨⟨_, _, m_Reader_single, B_Reader_single, ok_Reader_single n F_Reader_single hb hc_Reader hc_LETTERS cl_Reader n1_Reader n2_Reader c_Reader_single c_Reader_several⟩, ⟨_, _, m_Reader_several, B_Reader_several, ok_Reader_several n F_Reader_several hb hc_Reader cl_Reader n1_Reader n2_Reader c_Reader_several c_Reader_single c_Reader_is_next⟩⟩

/-! ### read -/
abbrev s_read : Stmt := top 22
abbrev n_read : List Str := ["text", "found"]
abbrev q_read : List Str := ["text"]
theorem sc_read : FnScope n_read q_read (defScope s_read) := ⟨rfl, rfl, rfl, by decide +kernel, rfl, by decide +kernel, by decide +kernel⟩

def P_read11 (aT aC : Addr) : PreX := fun ds Ψ Ξ => ∃ l : List Nat, ds = [.str (tx l)] ∧ (∀ c ∈ l, c < 128) ∧ l.length ≤ 200 ∧ (∀ k : Nat, badT l = some k → Ξ aT (some (k : Int))) ∧
  (badT l = none → ∃ (h : Nat) (c : Cn), Rd 0 h l c ∧ h ≤ 301 ∧ (¬ (c.deep ≤ 10 ∧ c.looks ≤ 12) → Ξ aC none) ∧ (c.deep ≤ 10 ∧ c.looks ≤ 12 → Ψ c.D))
theorem len_read {aT aC : Addr} : ∀ ds Ψ Ξ, P_read11 aT aC ds Ψ Ξ → ds.length = 1 := fun ds Ψ Ξ ⟨_, e, _⟩ => by rw [e]; rfl

def t_read (K : PySem.W.Frag) (E : XK) (a_BadText : Addr) (a_Reader : Addr) (a_BadCondition : Addr) : TS :=
  (tSeq (tDrop (tCallS (spX (P_needtX a_BadText)) (fun _ => E) (tCons (tVar 0) tNil)))
  (tSeq (tAsg (tMeth a_Reader "several" (spRd a_Reader (P_several 305)) [] E0 (tMake a_Reader (spRini a_Reader) [] E0 (tCons (tVar 0) tNil)) (tCons (tC (.str "|")) tNil)) (gName 1))
  (tSeq (tDrop (tCallS (spX (P_needcX a_BadCondition)) (fun _ => E) (tCons (tVar 1) tNil)))
  (tRet (tVar 1)))))

theorem w_read {K : PySem.W.Frag} {C aT aC : Addr} : ∀ E ds Ψ Ξ, P_read11 aT aC ds Ψ Ξ → WS (xS E Ξ) (t_read K E aT C aC) () (init n_read ds) (fun x _ => Ψ x) (fun _ _ => Ψ .none) := by
  rintro E ds Ψ Ξ ⟨l, rfl, hA, hl, hbad, q⟩
  unfold t_read
  repeat walk_at "j"
  refine ⟨l, rfl, hA, by omega, hbad, fun hn => ?_⟩
  obtain ⟨h, c, rd, hh, x, q⟩ := q hn
  have hs := rd.scan 0
  repeat walk_at "j"
  refine wp_reader (by decide +kernel) (by decide +kernel) ?_
  repeat walk_at "j"
  refine ⟨false, h, l, [], c, by rw [s_or]; rfl, ⟨⟨[], by simp, rfl, by simpa using (show l.length ≤ 10000 by omega), by simpa using scan_small hs⟩, rd⟩, by omega, by simp, by simp, ?_⟩
  repeat walk_at "j"
  refine ⟨c, rfl, rd.ok, x, fun g => ?_⟩
  repeat walk_at "j"
  exact q g

theorem ok_read {P : Program} {w : World} {K : PySem.W.Frag} {mg : Str → Option Value} {base : Heap} {f : Addr} {fd : FuncData} {a_BadText : Addr} {a_Reader : Addr} {a_BadCondition : Addr} (F : Fun K "read" "read" s_read f fd) (hb : Blt mg) (hc_BadText : mg "BadText" = some (.ref a_BadText)) (hc_Reader : mg "Reader" = some (.ref a_Reader)) (hc_BadCondition : mg "BadCondition" = some (.ref a_BadCondition)) (cl_Reader : Cls K a_Reader) (n1_Reader : NoAttr K a_Reader "text") (n2_Reader : NoAttr K a_Reader "place") (c_need_text : CalX P w K mg base 3 "need_text" q_need_text (spX (P_needtX a_BadText))) (c_Reader___init__ : CalMk P w K mg base 1 a_Reader q_Reader___init__ (spRini a_Reader)) (c_Reader_several : CalM P w K mg base 112 a_Reader "several" q_Reader_several (spRd a_Reader (P_several 305))) (c_need_condition : CalX P w K mg base 31 "need_condition" q_need_condition (spX (P_needcX a_BadCondition)))  : FnOk P w K mg base (L2.CX P w) 113 f fd q_read (spX (P_read11 a_BadText a_BadCondition)) := by
  refine fnX F sc_read len_read (t := fun E => t_read K E a_BadText a_Reader a_BadCondition) (fun cdv A outer s H E hr => ?_) (w_read )
  have hu64 := hr.units
  have hu := hu_of hr
  exact (pss_cons (ps_expr (pe_callX c_need_text (hr.mono (by omega)) (takes_of rfl rfl rfl rfl) rfl (pa_cons (pv 0) pa_nil)))
    (pss_cons (ps_set (i := 1) sc_read.nd rfl (Or.inl rfl) (pe_callM (pe_mk c_Reader___init__ hc_Reader (hr.mono (by omega)) rfl (pa_cons (pv 0) pa_nil)) cl_Reader c_Reader_several (hr.mono (by omega)) (pa_cons pe_str pa_nil)))
    (pss_cons (ps_expr (pe_callX c_need_condition (hr.mono (by omega)) (takes_of rfl rfl rfl rfl) rfl (pa_cons (pv 1) pa_nil)))
    (pss_one (ps_ret (pv 1))))))

/-! ### _law_begun -/
abbrev s__law_begun : Stmt := top 24
abbrev n__law_begun : List Str := ["_law_script", "_law_stirred", "_law_cell"]
abbrev q__law_begun : List Str := ["_law_script"]
theorem sc__law_begun : FnScope n__law_begun q__law_begun (defScope s__law_begun) := ⟨rfl, rfl, rfl, by decide +kernel, rfl, by decide +kernel, by decide +kernel⟩

theorem len__law_begun {K : PySem.W.Frag} : ∀ vs H Q E, spBegun K vs H Q E → vs.length = q__law_begun.length := fun vs H Q E ⟨_, _, e, _⟩ => by rw [e]; rfl

def t__law_begun (K : PySem.W.Frag) : TS :=
  (tSeq (tAsg (tC (.int 0)) (gName 1))
  (tSeq (tFor (iSeq K (tVar 0)) (gName 2) (tAsg (tOp rModI (tOp (rAddU K) (tOp (rAddU K) (tOp (rMulU K) (tVar 1) (tC (.int 48271))) (tOp (rMulU K) (tVar 2) (tC (.int 69621)))) (tC (.int 11))) (tC (.int 2147483647))) (gName 1)))
  (tRet (tLst (tCons (tCB (rLstU K) (tCons (tVar 0) tNil)) (tCons (tOp (rMulU K) (tVar 1) (tCB rInt (tCons (tOp rGtI (tCB (rLenU K) (tCons (tVar 0) tNil)) (tC (.int 2))) tNil))) tNil))))))

theorem w__law_begun {K : PySem.W.Frag} : ∀ vs H Q E, spBegun K vs H Q E → t__law_begun K { nx := fun _ H' => Q .non H', rt := Q } (L2.start n__law_begun vs) H := by
  rintro vs H Q E ⟨a, ns, rfl, hS, hl, q⟩
  unfold t__law_begun
  refine .inl ⟨_, rfl, a, rfl, ⟨_, hS⟩, for_list (K := K) (a := a) (xs := ns.map V.int) (fun i σ' H' => H' = H ∧ ∃ z v, σ' = [some (.ref a), some (.int z), v]) ⟨rfl, 0, none, rfl⟩ (fun i σ' H' _ ⟨e, _⟩ => by rw [e]; exact hS) ?_ ?_⟩
  · rintro i y σ' H' hi ⟨rfl, z, v, rfl⟩
    obtain ⟨m, rfl⟩ : ∃ m, y = V.int m := by
      rw [List.getElem?_map] at hi
      cases e : ns[i]? with
      | none => rw [e] at hi; cases hi
      | some m => rw [e] at hi; exact ⟨m, (Option.some.inj hi).symm⟩
    refine ⟨_, rfl, .inl ⟨_, _, rfl, rfl, .inr ⟨by decide, by decide⟩, ?_⟩⟩
    refine ⟨_, rfl, .inl ⟨_, _, rfl, rfl, .inr ⟨by decide, by decide⟩, ?_⟩⟩
    refine .inl ⟨_, _, rfl, rfl, .inl ⟨_, _, rfl, rfl, ?_⟩⟩
    exact ⟨_, _, rfl, rfl, (by show (0 : Int) < 2147483647; decide), rfl, _, _, rfl⟩
  · rintro σ' H' ⟨rfl, z, v, rfl⟩
    refine ⟨_, rfl, a, _, rfl, .inl hS, fun l hl' => ?_⟩
    refine ⟨_, rfl, _, rfl, .inl ⟨a, _, rfl, .inl ((same_new hl').seq hS), ?_⟩⟩
    refine ⟨_, _, rfl, rfl, .inr ⟨_, rfl, .inl ⟨_, _, rfl, rfl, .inr ?_, ?_⟩⟩⟩
    · split <;> exact ⟨by decide, by decide⟩
    · refine ⟨by show 2 ≤ sizeLine; decide, fun b hb => ?_⟩
      have hbl : l ≠ b := fun z => by rw [← z, upd_same] at hb; cases hb
      refine q b l _ ?_ hl' ((same_new hl').trans (same_new hb)) ⟨ns, _, upd_same, by rw [upd_ne hbl, upd_same]⟩
      exact (same_new hl').free hb

theorem ok__law_begun {P : Program} {w : World} {K : PySem.W.Frag} {mg : Str → Option Value} {base : Heap} {f : Addr} {fd : FuncData}  (F : Fun K "_law_begun" "_law_begun" s__law_begun f fd) (hb : Blt mg)   : FnOk P w K mg base CX0 1 f fd q__law_begun (spBegun K) := by
  refine fnR F sc__law_begun len__law_begun (t := t__law_begun K) (fun cdv A outer s H E hr => ?_) (w__law_begun )
  have hu64 := hr.units
  have hu := hu_of hr
  exact (pss_cons (ps_set (i := 1) sc__law_begun.nd rfl (Or.inl rfl) pe_int)
    (pss_cons (ps_for PassesOwn.never rfl (pi_seq (pv 0)) (pg_name (i := 2) sc__law_begun.nd rfl (Or.inl rfl)) (pss_one (ps_set (i := 1) sc__law_begun.nd rfl (Or.inl rfl) (pe_op op_modU (pe_op op_addU (pe_op op_addU (pe_op op_mulU (pv 1) pe_int) (pe_op op_mulU (pv 2) pe_int)) pe_int) pe_int))))
    (pss_one (ps_ret (pe_lst (pa_cons (pe_callTy call_lstU (by rfl) hb.list (by decide +kernel) (pa_cons (pv 0) pa_nil)) (pa_cons (pe_op op_mulU (pv 1) (pe_callTy call_intU (by rfl) hb.int (by decide +kernel) (pa_cons (pe_cmpR op_gtU (pe_callB call_lenU (by rfl) hb.len (by decide +kernel) (pa_cons (pv 0) pa_nil)) pe_int (nomark _)) pa_nil))) pa_nil)))))))

/-! ### _law_take -/
abbrev s__law_take : Stmt := top 25
abbrev n__law_take : List Str := ["_law_box", "_law_many", "_law_number"]
abbrev q__law_take : List Str := ["_law_box", "_law_many"]
theorem sc__law_take : FnScope n__law_take q__law_take (defScope s__law_take) := ⟨rfl, rfl, rfl, by decide +kernel, rfl, by decide +kernel, by decide +kernel⟩

theorem len__law_take : ∀ vs H Q E, spB P_take vs H Q E → vs.length = q__law_take.length := fun vs H Q E ⟨_, _, us, _, ds, _, e, _, _, _, _, d, ⟨_, e2, _⟩, _⟩ => by rw [e, List.length_cons, d.len, e2]; rfl
/-- what is left of a list from which the first is taken where it is 0 or -1 -/
theorem eq_nil (ns : List Int) : PyData.eqv (.list (ns.map .int)) (.list []) = decide (ns = []) := by
  cases ns <;> simp [PyData.eqv, PyData.eqvAll]

def t__law_take (K : PySem.W.Frag) : TS :=
  (tSeq (tIfS (tTest (tOp (rEqD K) (tOp (rIx K) (tVar 0) (tC (.int 0))) (tLst tNil))) (tSeq (tAsg (tOp rModI (tOp (rMulU K) (tOp (rIx K) (tVar 0) (tC (.int 1))) (tC (.int 48271))) (tC (.int 2147483647))) (gSub (tVar 0) (tC (.int 1)) rSetL))
  (tRet (tOp rModI (tOp rDivI (tOp (rIx K) (tVar 0) (tC (.int 1))) (tC (.int 7))) (tVar 1)))) tNext)
  (tSeq (tAsg (tOp (rIx K) (tOp (rIx K) (tVar 0) (tC (.int 0))) (tC (.int 0))) (gName 2))
  (tSeq (tAsg (tOp rDivI (tVar 2) (tVar 1)) (gSub (tOp (rIx K) (tVar 0) (tC (.int 0))) (tC (.int 0)) rSetL))
  (tSeq (tIfS (tOr (tTest (tOp (rEqD K) (tOp (rIx K) (tOp (rIx K) (tVar 0) (tC (.int 0))) (tC (.int 0))) (tC (.int 0)))) (tTest (tOp (rEqD K) (tOp (rIx K) (tOp (rIx K) (tVar 0) (tC (.int 0))) (tC (.int 0))) (tUn rNegI (tC (.int 1)))))) (tDrop (tBM K "list" rPopAt (tOp (rIx K) (tVar 0) (tC (.int 0))) (tCons (tC (.int 0)) tNil))) tNext)
  (tRet (tOp rModI (tVar 2) (tVar 1)))))))

theorem w__law_take {K : PySem.W.Frag} : ∀ vs H Q E, spB P_take vs H Q E → t__law_take K { nx := fun _ H' => Q .non H', rt := Q } (L2.start n__law_take vs) H := by
  rintro vs H Q E ⟨b, l, us, B, ds, Ψ, rfl, hb, hl, ha, dm, d, ⟨m, rfl, m0, m1, hΨ⟩, q⟩
  cases d with
  | cons d1 d2 =>
    cases d2
    cases d1
    have hne := ha.ne
    obtain ⟨ns, z, h1, h2⟩ := ha
    unfold t__law_take
    have fin : ∀ (H' : Hp) (r : Int), 0 ≤ r → r < m → Fr (fun a => a = b ∨ a = l) H H' → BoxAt b l H' → Q (.int r) H' := fun H' r r0 r1 e a => q _ H' (.int r) (hΨ r r0 r1) e a (.int r)
    -- box[0] == []
    refine ⟨_, rfl, .inl ⟨b, _, 0, .ref l, rfl, rfl, SqL.of h1, rfl, ?_⟩⟩
    refine ⟨by show 0 ≤ sizeLine; decide, fun p hp => ?_⟩
    have hbp : b ≠ p := fun z => by rw [z, hp] at h1; cases h1
    have hlp : l ≠ p := fun z => by rw [z, hp] at h2; cases h2
    have g1 : upd H p (.lst []) b = some (.lst [.ref l, .int z]) := by rw [upd_ne hbp]; exact h1
    have g2 : upd H p (.lst []) l = some (.lst (ns.map V.int)) := by rw [upd_ne hlp]; exact h2
    have e0 : Fr (fun a => a = b ∨ a = l) H (upd H p (.lst [])) := Fr.of (same_new hp)
    refine ⟨.list (ns.map .int), .list [], .lst (SqL.of g2) (DDs.dp _ _ (DDs.ints ns)), .lst (SqL.of upd_same) .nil, shaped_ints ns, by decide +kernel, ?_⟩
    refine ⟨_, rfl, ?_⟩
    rw [eq_nil]
    refine ifD (fun hn => ?_) (fun hn => ?_)
    · -- box[1] = box[1] * 48271 % 2147483647; return box[1] // 7 % many
      refine ⟨_, rfl, .inl ⟨b, _, 1, .int z, rfl, rfl, SqL.of g1, rfl, ?_⟩⟩
      refine .inl ⟨_, _, rfl, rfl, .inr ⟨by decide, by decide⟩, ?_⟩
      refine ⟨_, _, rfl, rfl, (by show (0 : Int) < 2147483647; decide), ?_⟩
      refine ⟨_, rfl, b, _, 1, 1, rfl, rfl, g1, rfl, ?_⟩
      refine ⟨_, rfl, .inl ⟨b, _, 1, .int _, rfl, rfl, SqL.of upd_same, rfl, ?_⟩⟩
      refine ⟨_, _, rfl, rfl, ⟨by decide, by decide⟩, ?_⟩
      refine ⟨_, rfl, _, _, rfl, rfl, m0, ?_⟩
      refine fin _ _ (Int.emod_nonneg _ (by omega)) (Int.emod_lt_of_pos _ m0) (e0.trans fun a o h n => ?_) ⟨ns, _, upd_same, ?_⟩
      · rw [upd_ne fun z => n (.inl z)]; exact h
      · rw [upd_ne hne.symm]; exact g2
    · -- number = box[0][0]
      obtain ⟨n0, r, rfl⟩ : ∃ n0 r, ns = n0 :: r := by
        cases ns with
        | nil => exact absurd rfl hn
        | cons n0 r => exact ⟨n0, r, rfl⟩
      refine ⟨_, rfl, .inl ⟨b, _, 0, .ref l, rfl, rfl, SqL.of g1, rfl, ?_⟩⟩
      refine .inl ⟨l, _, 0, .int n0, rfl, rfl, SqL.of g2, at0, ?_⟩
      -- box[0][0] = number // many
      refine ⟨_, rfl, _, rfl, _, _, rfl, rfl, ⟨m0, by omega⟩, ?_⟩
      refine ⟨_, rfl, .inl ⟨b, _, 0, .ref l, rfl, rfl, SqL.of g1, rfl, ?_⟩⟩
      refine ⟨l, _, 0, 0, rfl, rfl, g2, ixn0, ?_⟩
      have k1 : upd (upd H p (.lst [])) l (.lst (((n0 :: r).map V.int).set 0 (.int (n0 / m)))) b = some (.lst [.ref l, .int z]) := by rw [upd_ne hne]; exact g1
      have k2 : upd (upd H p (.lst [])) l (.lst (((n0 :: r).map V.int).set 0 (.int (n0 / m)))) l = some (.lst ((n0 / m :: r).map V.int)) := upd_same
      have e1 : Fr (fun a => a = b ∨ a = l) H (upd (upd H p (.lst [])) l (.lst (((n0 :: r).map V.int).set 0 (.int (n0 / m))))) := e0.trans fun a o h n => by rw [upd_ne fun z => n (.inr z)]; exact h
      generalize upd (upd H p (.lst [])) l (.lst (((n0 :: r).map V.int).set 0 (.int (n0 / m)))) = H2 at k1 k2 e1 ⊢
      have last : ∀ H', Fr (fun a => a = b ∨ a = l) H H' → BoxAt b l H' → tRet (tOp rModI (tVar 2) (tVar 1)) { nx := fun _ H' => Q .non H', rt := Q } [some (.ref b), some (.int m), some (.int n0)] H' := fun H' e a =>
        ⟨_, rfl, _, rfl, _, _, rfl, rfl, m0, fin _ _ (Int.emod_nonneg _ (by omega)) (Int.emod_lt_of_pos _ m0) e a⟩
      have drop : ∀ D : Ends, (∀ H', Fr (fun a => a = b ∨ a = l) H H' → BoxAt b l H' → D.nx [some (.ref b), some (.int m), some (.int n0)] H') →
          tDrop (tBM K "list" rPopAt (tOp (rIx K) (tVar 0) (tC (.int 0))) (tCons (tC (.int 0)) tNil)) D [some (.ref b), some (.int m), some (.int n0)] H2 := fun D k => by
        refine ⟨_, rfl, .inl ⟨b, _, 0, .ref l, rfl, rfl, SqL.of k1, rfl, Or.inl ⟨rfl, _, SqL.of k2⟩, ?_⟩⟩
        refine ⟨l, _, 0, 0, .int (n0 / m), rfl, rfl, k2, by decide, by decide, sqi0, rfl, ?_⟩
        refine k _ (e1.trans fun a o h n => by rw [upd_ne fun z => n (.inr z)]; exact h) ⟨r, z, by rw [upd_ne hne]; exact k1, upd_same⟩
      have get : ∀ Q' : VK, Q' (.int (n0 / m)) H2 → tOp (rIx K) (tOp (rIx K) (tVar 0) (tC (.int 0))) (tC (.int 0)) [some (.ref b), some (.int m), some (.int n0)] H2 Q' := fun Q' k =>
        ⟨_, rfl, .inl ⟨b, _, 0, .ref l, rfl, rfl, SqL.of k1, rfl, .inl ⟨l, _, 0, .int (n0 / m), rfl, rfl, SqL.of k2, at0, k⟩⟩⟩
      -- if box[0][0] == 0 or box[0][0] == -1: box[0].pop(0)
      refine get _ ⟨.int _, .int 0, .int _, .int _, rfl, rfl, _, rfl, ?_⟩
      show if _ = true then _ else _
      cases PyData.eqv (.int (n0 / m)) (.int 0) with
      | true => exact drop _ last
      | false =>
        refine get _ ⟨_, rfl, .int _, .int (-1), .int _, .int _, rfl, rfl, _, rfl, ?_⟩
        cases PyData.eqv (.int (n0 / m)) (.int (-1)) with
        | true => exact drop _ last
        | false => exact last H2 e1 ⟨n0 / m :: r, z, k1, k2⟩

theorem ok__law_take {P : Program} {w : World} {K : PySem.W.Frag} {mg : Str → Option Value} {base : Heap} {f : Addr} {fd : FuncData}  (F : Fun K "_law_take" "_law_take" s__law_take f fd) (hb : Blt mg)   : FnOk P w K mg base CX0 1 f fd q__law_take (spB P_take) := by
  refine fnR F sc__law_take len__law_take (t := t__law_take K) (fun cdv A outer s H E hr => ?_) (w__law_take )
  have hu64 := hr.units
  have hu := hu_of hr
  exact (pss_cons (ps_if (pt_cmpR (op_eqD hu64) (pe_ix ix_seq (pv 0) pe_int (fun _ _ => rfl)) (pe_lst pa_nil) (nomark _)) (pss_cons (ps_asg (pe_op op_modU (pe_op op_mulU (pe_ix ix_seq (pv 0) pe_int (fun _ _ => rfl)) pe_int) pe_int) (pg_sub (pv 0) pe_int set_list))
    (pss_one (ps_ret (pe_op op_modU (pe_op op_divU (pe_ix ix_seq (pv 0) pe_int (fun _ _ => rfl)) pe_int) (pv 1))))) pss_nil)
    (pss_cons (ps_set (i := 2) sc__law_take.nd rfl (Or.inl rfl) (pe_ix ix_seq (pe_ix ix_seq (pv 0) pe_int (fun _ _ => rfl)) pe_int (fun _ _ => rfl)))
    (pss_cons (ps_asg (pe_op op_divU (pv 2) (pv 1)) (pg_sub (pe_ix ix_seq (pv 0) pe_int (fun _ _ => rfl)) pe_int set_list))
    (pss_cons (ps_if (PW.pt (pw_or (pt_cmpR (op_eqD hu64) (pe_ix ix_seq (pe_ix ix_seq (pv 0) pe_int (fun _ _ => rfl)) pe_int (fun _ _ => rfl)) pe_int (nomark _)) (pw_or1 (pt_cmpR (op_eqD hu64) (pe_ix ix_seq (pe_ix ix_seq (pv 0) pe_int (fun _ _ => rfl)) pe_int (fun _ _ => rfl)) (pe_un op_negU pe_int) (nomark _))))) (pss_one (ps_expr (pe_bm PySem.F.plainAttrs_list PySem.F.slot_list_pop PySem.F.type_list_pop mt_popAt (pe_ix ix_seq (pv 0) pe_int (fun _ _ => rfl)) (pa_cons pe_int pa_nil)))) pss_nil)
    (pss_one (ps_ret (pe_op op_modU (pv 2) (pv 1))))))))

/-! ### _law_alike -/
abbrev s__law_alike : Stmt := top 26
abbrev n__law_alike : List Str := ["_law_found", "_law_due", "_law_k"]
abbrev q__law_alike : List Str := ["_law_found", "_law_due"]
theorem sc__law_alike : FnScope n__law_alike q__law_alike (defScope s__law_alike) := ⟨rfl, rfl, rfl, by decide +kernel, rfl, by decide +kernel, by decide +kernel⟩

/-- the same told twice is alike -/
def P_alike (n : Nat) : Pre := fun ds Ψ => ∃ d : PyData, ds = [d, d] ∧ nice d = true ∧ d.depth < n ∧ Ψ (.bool true)
theorem len__law_alike {n : Nat} : ∀ ds Ψ, P_alike n ds Ψ → ds.length = 2 := fun ds Ψ ⟨_, e, _⟩ => by rw [e]; rfl
theorem zero__law_alike : ∀ vs H Q E, ¬ spD (P_alike 0) vs H Q E := zeroD fun ds Ψ ⟨_, _, _, h, _⟩ => absurd h (Nat.not_lt_zero _)

def t__law_alike (K : PySem.W.Frag) (n : Nat) : TS :=
  (tSeq (tIfS (tTest (tOp rIsN (tVar 1) (tC .non))) (tRet (tOp rIsN (tVar 0) (tC .non))) tNext)
  (tSeq (tIfS (tB (tCB (rIsi K) (tCons (tVar 1) (tCons (tC (.ty "bool")) tNil)))) (tRet (tAndV (tCB (rIsi K) (tCons (tVar 0) (tCons (tC (.ty "bool")) tNil))) (tOp (rEqD K) (tVar 0) (tVar 1)))) tNext)
  (tSeq (tIfS (tB (tCB (rIsi K) (tCons (tVar 1) (tCons (tC (.ty "int")) tNil)))) (tRet (tAndV (tCB (rIsi K) (tCons (tVar 0) (tCons (tC (.ty "int")) tNil))) (tAndV (tNotV (tCB (rIsi K) (tCons (tVar 0) (tCons (tC (.ty "bool")) tNil)))) (tOp (rEqD K) (tVar 0) (tVar 1))))) tNext)
  (tSeq (tIfS (tB (tCB (rIsi K) (tCons (tVar 1) (tCons (tC (.ty "str")) tNil)))) (tRet (tAndV (tCB (rIsi K) (tCons (tVar 0) (tCons (tC (.ty "str")) tNil))) (tOp (rEqD K) (tVar 0) (tVar 1)))) tNext)
  (tSeq (tIfS (tOr (tTest (tOp (rNeD K) (tCB (rIsi K) (tCons (tVar 1) (tCons (tC (.ty "tuple")) tNil))) (tCB (rIsi K) (tCons (tVar 0) (tCons (tC (.ty "tuple")) tNil))))) (tTest (tOp (rNeD K) (tCB (rIsi K) (tCons (tVar 1) (tCons (tC (.ty "list")) tNil))) (tCB (rIsi K) (tCons (tVar 0) (tCons (tC (.ty "list")) tNil)))))) (tRet (tC (.bl false))) tNext)
  (tSeq (tIfS (tTest (tOp (rNeD K) (tCB (rLenU K) (tCons (tVar 0) tNil)) (tCB (rLenU K) (tCons (tVar 1) tNil)))) (tRet (tC (.bl false))) tNext)
  (tSeq (tFor (iRng1 (tCons (tCB (rLenU K) (tCons (tVar 1) tNil)) tNil)) (gName 2) (tIfS (tNot (tB (tCall (spD (P_alike n)) [] E0 (tCons (tOp (rIx K) (tVar 0) (tVar 2)) (tCons (tOp (rIx K) (tVar 1) (tVar 2)) tNil))))) (tRet (tC (.bl false))) tNext))
  (tRet (tC (.bl true))))))))))

theorem w__law_alike (n : Nat) {K : PySem.W.Frag} : ∀ ds Ψ, P_alike (n + 1) ds Ψ → WS uS (t__law_alike K n) () (init n__law_alike ds) (fun x _ => Ψ x) (fun _ _ => Ψ .none) := by
  rintro ds Ψ ⟨d, rfl, hn, hd, q⟩
  unfold t__law_alike
  cases d with
  | none =>
    repeat walk_at "j"
    refine rd_isN ?_
    repeat walk_at "j"
    refine rd_isN ?_
    exact q
  | bool b =>
    repeat walk_at "j"
    refine rd_isN ?_
    repeat walk_at "j"
    rw [beq_self_eq_true]
    exact q
  | int i =>
    repeat walk_at "j"
    refine rd_isN ?_
    repeat walk_at "j"
    rw [decide_eq_true rfl]
    exact q
  | str s =>
    repeat walk_at "j"
    refine rd_isN ?_
    repeat walk_at "j"
    refine rd_eqW hn hn ?_
    rw [beq_self_eq_true]
    exact q
  | dict k => cases hn
  | list es =>
    have h' : es.length ≤ 100000 ∧ niceAll es = true := by simpa [nice] using hn
    have hd' : PyData.depthAll es < n := by rw [depth_list] at hd; omega
    repeat walk_at "j"
    refine rd_isN ?_
    repeat walk_at "j"
    refine rd_neB ?_
    repeat walk_at "j"
    refine rd_neB ?_
    repeat walk_at "j"
    refine ifND (fun h => absurd rfl h) (fun _ => ?_)
    repeat walk_at "j"
    refine ws_for_range ?_
    repeat walk_at "j"
    refine ⟨by omega, by omega, fun i ρ _ => ∃ w, ρ = [some (.d (.list es)), some (.d (.list es)), w], ⟨_, rfl⟩, fun i ρ _ hi ⟨w, e⟩ => ?_, fun ρ _ ⟨w, e⟩ => ?_⟩
    · subst e
      have hi' : i < es.length := by omega
      have hm : es[i]? = some es[i] := List.getElem?_eq_getElem hi'
      have hmem := List.getElem_mem hi'
      repeat walk_at "j"
      refine rd_ixL (atI_nat hm) ?_
      repeat walk_at "j"
      refine rd_ixL (atI_nat hm) ?_
      repeat walk_at "j"
      refine ⟨es[i], rfl, niceAll_mem h'.2 hmem, by have := depth_mem hmem; omega, ?_⟩
      repeat walk_at "j"
      exact ⟨_, rfl⟩
    · subst e
      repeat walk_at "j"
      exact q
  | tuple es =>
    have h' : es.length ≤ 100000 ∧ niceAll es = true := by simpa [nice] using hn
    have hd' : PyData.depthAll es < n := by rw [depth_tuple] at hd; omega
    repeat walk_at "j"
    refine rd_isN ?_
    repeat walk_at "j"
    refine rd_neB ?_
    repeat walk_at "j"
    refine rd_neB ?_
    repeat walk_at "j"
    refine ifND (fun h => absurd rfl h) (fun _ => ?_)
    repeat walk_at "j"
    refine ws_for_range ?_
    repeat walk_at "j"
    refine ⟨by omega, by omega, fun i ρ _ => ∃ w, ρ = [some (.d (.tuple es)), some (.d (.tuple es)), w], ⟨_, rfl⟩, fun i ρ _ hi ⟨w, e⟩ => ?_, fun ρ _ ⟨w, e⟩ => ?_⟩
    · subst e
      have hi' : i < es.length := by omega
      have hm : es[i]? = some es[i] := List.getElem?_eq_getElem hi'
      have hmem := List.getElem_mem hi'
      repeat walk_at "j"
      refine rd_ixT (atI_nat hm) ?_
      repeat walk_at "j"
      refine rd_ixT (atI_nat hm) ?_
      repeat walk_at "j"
      refine ⟨es[i], rfl, niceAll_mem h'.2 hmem, by have := depth_mem hmem; omega, ?_⟩
      repeat walk_at "j"
      exact ⟨_, rfl⟩
    · subst e
      repeat walk_at "j"
      exact q

theorem ok__law_alike {P : Program} {w : World} {K : PySem.W.Frag} {mg : Str → Option Value} {base : Heap} {f : Addr} {fd : FuncData}  (n : Nat) (F : Fun K "_law_alike" "_law_alike" s__law_alike f fd) (hb : Blt mg) (c__law_alike : Cal P w K mg base (n + 0) "_law_alike" q__law_alike (spD (P_alike n)))  : FnOk P w K mg base CX0 (n + 0 + 1) f fd q__law_alike (spD (P_alike (n + 1))) := by
  refine fnD F sc__law_alike len__law_alike (t := t__law_alike K n) (fun cdv A outer s H E hr => ?_) (w__law_alike n )
  have hu64 := hr.units
  have hu := hu_of hr
  exact (pss_cons (ps_if (pt_cmpR op_isNU (pv 1) pe_non (nomark _)) (pss_one (ps_ret (pe_cmpR op_isNU (pv 0) pe_non (nomark _)))) pss_nil)
    (pss_cons (ps_if (pt_val (pe_callB call_isi (by rfl) hb.isinstance (by decide +kernel) (pa_cons (pv 1) (pa_cons (pe_bltn (by rfl) hb.bool (by decide +kernel) rfl) pa_nil)))) (pss_one (ps_ret (pe_and (pe_callB call_isi (by rfl) hb.isinstance (by decide +kernel) (pa_cons (pv 0) (pa_cons (pe_bltn (by rfl) hb.bool (by decide +kernel) rfl) pa_nil))) (pe_one (pe_cmpR (op_eqD hu64) (pv 0) (pv 1) (nomark _)))))) pss_nil)
    (pss_cons (ps_if (pt_val (pe_callB call_isi (by rfl) hb.isinstance (by decide +kernel) (pa_cons (pv 1) (pa_cons (pe_bltn (by rfl) hb.int (by decide +kernel) rfl) pa_nil)))) (pss_one (ps_ret (pe_and (pe_callB call_isi (by rfl) hb.isinstance (by decide +kernel) (pa_cons (pv 0) (pa_cons (pe_bltn (by rfl) hb.int (by decide +kernel) rfl) pa_nil))) (pe_and (pe_not (pe_callB call_isi (by rfl) hb.isinstance (by decide +kernel) (pa_cons (pv 0) (pa_cons (pe_bltn (by rfl) hb.bool (by decide +kernel) rfl) pa_nil)))) (pe_one (pe_cmpR (op_eqD hu64) (pv 0) (pv 1) (nomark _))))))) pss_nil)
    (pss_cons (ps_if (pt_val (pe_callB call_isi (by rfl) hb.isinstance (by decide +kernel) (pa_cons (pv 1) (pa_cons (pe_bltn (by rfl) hb.str (by decide +kernel) rfl) pa_nil)))) (pss_one (ps_ret (pe_and (pe_callB call_isi (by rfl) hb.isinstance (by decide +kernel) (pa_cons (pv 0) (pa_cons (pe_bltn (by rfl) hb.str (by decide +kernel) rfl) pa_nil))) (pe_one (pe_cmpR (op_eqD hu64) (pv 0) (pv 1) (nomark _)))))) pss_nil)
    (pss_cons (ps_if (PW.pt (pw_or (pt_cmpR (op_neD hu64) (pe_callB call_isi (by rfl) hb.isinstance (by decide +kernel) (pa_cons (pv 1) (pa_cons (pe_bltn (by rfl) hb.tuple (by decide +kernel) rfl) pa_nil))) (pe_callB call_isi (by rfl) hb.isinstance (by decide +kernel) (pa_cons (pv 0) (pa_cons (pe_bltn (by rfl) hb.tuple (by decide +kernel) rfl) pa_nil))) (nomark _)) (pw_or1 (pt_cmpR (op_neD hu64) (pe_callB call_isi (by rfl) hb.isinstance (by decide +kernel) (pa_cons (pv 1) (pa_cons (pe_bltn (by rfl) hb.list (by decide +kernel) rfl) pa_nil))) (pe_callB call_isi (by rfl) hb.isinstance (by decide +kernel) (pa_cons (pv 0) (pa_cons (pe_bltn (by rfl) hb.list (by decide +kernel) rfl) pa_nil))) (nomark _))))) (pss_one (ps_ret pe_bl)) pss_nil)
    (pss_cons (ps_if (pt_cmpR (op_neD hu64) (pe_callB call_lenU (by rfl) hb.len (by decide +kernel) (pa_cons (pv 0) pa_nil)) (pe_callB call_lenU (by rfl) hb.len (by decide +kernel) (pa_cons (pv 1) pa_nil)) (nomark _)) (pss_one (ps_ret pe_bl)) pss_nil)
    (pss_cons (ps_for PassesOwn.never rfl (pi_range1 (by rfl) hb.range (pa_cons (pe_callB call_lenU (by rfl) hb.len (by decide +kernel) (pa_cons (pv 1) pa_nil)) pa_nil)) (pg_name (i := 2) sc__law_alike.nd rfl (Or.inl rfl)) (pss_one (ps_if (pt_not (pt_val (pe_callC c__law_alike (hr.mono (by omega)) rfl (pa_cons (pe_ix ix_seq (pv 0) (pv 2) (fun _ _ => rfl)) (pa_cons (pe_ix ix_seq (pv 1) (pv 2) (fun _ _ => rfl)) pa_nil))))) (pss_one (ps_ret pe_bl)) pss_nil)))
    (pss_one (ps_ret pe_bl)))))))))

theorem all__law_alike {P : Program} {w : World} {K : PySem.W.Frag} {mg : Str → Option Value} {base : Heap}  {f__law_alike : Addr} {d__law_alike : FuncData} (F__law_alike : Fun K "_law_alike" "_law_alike" s__law_alike f__law_alike d__law_alike) (m__law_alike : mg "_law_alike" = some (.ref f__law_alike)) (B__law_alike : Binds K d__law_alike q__law_alike []) (hb : Blt mg)  : ∀ n : Nat, Cal P w K mg base (n + 0) "_law_alike" q__law_alike (spD (P_alike n))
  | 0 => cal_zero F__law_alike.kp m__law_alike B__law_alike zero__law_alike
  | n + 1 => by
    have c__law_alike := all__law_alike (P := P) (w := w) (base := base) F__law_alike m__law_alike B__law_alike hb  n
    have e : n + 1 + 0 = n + 0 + 1 := by omega
    rw [e]
    exact ⟨_, _, m__law_alike, F__law_alike.kp, B__law_alike, ok__law_alike n F__law_alike hb c__law_alike⟩

/-! ### _law_class -/
abbrev s__law_class : Stmt := top 27
abbrev n__law_class : List Str := ["_law_e", "_law_kinds", "_law_words"]
abbrev q__law_class : List Str := ["_law_e"]
theorem sc__law_class : FnScope n__law_class q__law_class (defScope s__law_class) := ⟨rfl, rfl, rfl, by decide +kernel, rfl, by decide +kernel, by decide +kernel⟩

def nm11 (aT : Addr) : Addr → Str := fun C => if C = aT then "BadText" else "BadCondition"
theorem len__law_class {ok : Addr → Prop} {nm : Addr → Str} : ∀ a C d vs H Q E, spCls nm ok a C d vs H Q E → vs.length = 1 := fun a C d vs H Q E h => by rw [h.1]; rfl
theorem cls_ne {K : PySem.W.Frag} {a b : Addr} (h1 : PySem.W.kitOne K (.ref a) (.ref b) = some false) (h2 : PySem.W.kitOne K (.ref a) (.ref a) = some true) : a ≠ b := fun e => by subst e; rw [h1] at h2; cases h2

def t__law_class (K : PySem.W.Frag) (C a : Addr) (d : Option Addr) (a_BadEnd : Addr) (a_BadTurns : Addr) (a_BadWorths : Addr) (a_BadCondition : Addr) (a_BadText : Addr) (a_TooMany : Addr) (a_BadChances : Addr) (a_BadCode : Addr) : TS :=
  (tSeq (tAsg (tLst (tCons (tCB (rIsX K C a d) (tCons (tVar 0) (tCons (tC (.ref a_BadCondition)) tNil))) (tCons (tCB (rIsX K C a d) (tCons (tVar 0) (tCons (tC (.ref a_BadWorths)) tNil))) (tCons (tCB (rIsX K C a d) (tCons (tVar 0) (tCons (tC (.ref a_BadTurns)) tNil))) (tCons (tCB (rIsX K C a d) (tCons (tVar 0) (tCons (tC (.ref a_BadEnd)) tNil))) tNil))))) (gName 1))
  (tSeq (tAsg (tOp (rAddU K) (tVar 1) (tLst (tCons (tCB (rIsX K C a d) (tCons (tVar 0) (tCons (tC (.ref a_BadCode)) tNil))) (tCons (tCB (rIsX K C a d) (tCons (tVar 0) (tCons (tC (.ref a_BadChances)) tNil))) (tCons (tCB (rIsX K C a d) (tCons (tVar 0) (tCons (tC (.ref a_TooMany)) tNil))) (tCons (tCB (rIsX K C a d) (tCons (tVar 0) (tCons (tC (.ref a_BadText)) tNil))) tNil)))))) (gName 1))
  (tSeq (tAsg (tLst (tCons (tC (.str "BadCondition")) (tCons (tC (.str "BadWorths")) (tCons (tC (.str "BadTurns")) (tCons (tC (.str "BadEnd")) (tCons (tC (.str "BadCode")) (tCons (tC (.str "BadChances")) (tCons (tC (.str "TooMany")) (tCons (tC (.str "BadText")) tNil))))))))) (gName 2))
  (tRet (tIf (tAnd (tTest (tOp (rEqD K) (tBM K "list" (rCntF K) (tVar 1) (tCons (tC (.bl true)) tNil)) (tC (.int 1)))) (tB (tCB (rIsX K C a d) (tCons (tVar 0) (tCons (tC (.ty "ValueError")) tNil))))) (tOp (rIx K) (tVar 2) (tBM K "list" (rIndex K) (tVar 1) (tCons (tC (.bl true)) tNil))) (tC (.str "")))))))

theorem w__law_class {K : PySem.W.Frag} {C a : Addr} {d : Option Addr} {a4 a3 a2 a1 a8 a7 a6 a5 : Addr}
    (f1 : PySem.W.kitOne K (.ref a8) (.ref a1) = some false) (f2 : PySem.W.kitOne K (.ref a8) (.ref a2) = some false) (f3 : PySem.W.kitOne K (.ref a8) (.ref a3) = some false) (f4 : PySem.W.kitOne K (.ref a8) (.ref a4) = some false) (f5 : PySem.W.kitOne K (.ref a8) (.ref a5) = some false) (f6 : PySem.W.kitOne K (.ref a8) (.ref a6) = some false)
    (f7 : PySem.W.kitOne K (.ref a8) (.ref a7) = some false) (f8 : PySem.W.kitOne K (.ref a8) (.ref a8) = some true) (f9 : PySem.W.kitOne K (.ref a8) (.type "ValueError") = some true)
    (g1 : PySem.W.kitOne K (.ref a1) (.ref a1) = some true) (g2 : PySem.W.kitOne K (.ref a1) (.ref a2) = some false) (g3 : PySem.W.kitOne K (.ref a1) (.ref a3) = some false) (g4 : PySem.W.kitOne K (.ref a1) (.ref a4) = some false) (g5 : PySem.W.kitOne K (.ref a1) (.ref a5) = some false) (g6 : PySem.W.kitOne K (.ref a1) (.ref a6) = some false)
    (g7 : PySem.W.kitOne K (.ref a1) (.ref a7) = some false) (g8 : PySem.W.kitOne K (.ref a1) (.ref a8) = some false) (g9 : PySem.W.kitOne K (.ref a1) (.type "ValueError") = some true) : ∀ fs, (C = a8 ∨ C = a1) → WS (dS d fs) (t__law_class K C a d a4 a3 a2 a1 a8 a7 a6 a5) () (initC a n__law_class) (fun x _ => x = .str (nm11 a8 C)) (fun _ _ => False) := by
  rintro fs (rfl | rfl)
  · unfold t__law_class nm11
    rw [if_pos rfl]
    repeat walk_at "j"
    refine rd_addL ?_ ?_
    · decide
    repeat walk_at "j"
    refine wp_countB ?_
    repeat walk_at "j"
    refine ⟨[false, false, false, false, false, false, false, true], rfl, ?_⟩
    repeat walk_at "j"
    refine wp_indexB ?_
    repeat walk_at "j"
    refine ⟨[false, false, false, false, false, false, false, true], rfl, ?_⟩
    repeat walk_at "j"
    refine ⟨true, 7, rfl, rfl, fun m z hm hz => ?_, ?_⟩
    · match m, hm, hz with
      | 0, _, e => cases e; decide
      | 1, _, e => cases e; decide
      | 2, _, e => cases e; decide
      | 3, _, e => cases e; decide
      | 4, _, e => cases e; decide
      | 5, _, e => cases e; decide
      | 6, _, e => cases e; decide
    refine rd_ixL rfl ?_
    rfl
  · unfold t__law_class nm11
    rw [if_neg (cls_ne g8 g1)]
    repeat walk_at "j"
    refine rd_addL ?_ ?_
    · decide
    repeat walk_at "j"
    refine wp_countB ?_
    repeat walk_at "j"
    refine ⟨[true, false, false, false, false, false, false, false], rfl, ?_⟩
    repeat walk_at "j"
    refine wp_indexB ?_
    repeat walk_at "j"
    refine ⟨[true, false, false, false, false, false, false, false], rfl, ?_⟩
    repeat walk_at "j"
    refine ⟨true, 0, rfl, rfl, fun m z hm hz => absurd hm (Nat.not_lt_zero _), ?_⟩
    refine rd_ixL rfl ?_
    rfl

theorem ok__law_class {P : Program} {w : World} {K : PySem.W.Frag} {mg : Str → Option Value} {base : Heap} {f : Addr} {fd : FuncData} {a_BadEnd : Addr} {a_BadTurns : Addr} {a_BadWorths : Addr} {a_BadCondition : Addr} {a_BadText : Addr} {a_TooMany : Addr} {a_BadChances : Addr} {a_BadCode : Addr} (F : Fun K "_law_class" "_law_class" s__law_class f fd) (hb : Blt mg) (hc_BadEnd : mg "BadEnd" = some (.ref a_BadEnd)) (hc_BadTurns : mg "BadTurns" = some (.ref a_BadTurns)) (hc_BadWorths : mg "BadWorths" = some (.ref a_BadWorths)) (hc_BadCondition : mg "BadCondition" = some (.ref a_BadCondition)) (hc_BadText : mg "BadText" = some (.ref a_BadText)) (hc_TooMany : mg "TooMany" = some (.ref a_TooMany)) (hc_BadChances : mg "BadChances" = some (.ref a_BadChances)) (hc_BadCode : mg "BadCode" = some (.ref a_BadCode)) (kf_BadText_BadCondition : PySem.W.kitOne K (.ref a_BadText) (.ref a_BadCondition) = some false) (kf_BadText_BadWorths : PySem.W.kitOne K (.ref a_BadText) (.ref a_BadWorths) = some false) (kf_BadText_BadTurns : PySem.W.kitOne K (.ref a_BadText) (.ref a_BadTurns) = some false) (kf_BadText_BadEnd : PySem.W.kitOne K (.ref a_BadText) (.ref a_BadEnd) = some false) (kf_BadText_BadCode : PySem.W.kitOne K (.ref a_BadText) (.ref a_BadCode) = some false) (kf_BadText_BadChances : PySem.W.kitOne K (.ref a_BadText) (.ref a_BadChances) = some false) (kf_BadText_TooMany : PySem.W.kitOne K (.ref a_BadText) (.ref a_TooMany) = some false) (kt_BadText_BadText : PySem.W.kitOne K (.ref a_BadText) (.ref a_BadText) = some true) (kv_BadText : PySem.W.kitOne K (.ref a_BadText) (.type "ValueError") = some true) (exc_BadText : ExcC K a_BadText) (kt_BadCondition_BadCondition : PySem.W.kitOne K (.ref a_BadCondition) (.ref a_BadCondition) = some true) (kf_BadCondition_BadWorths : PySem.W.kitOne K (.ref a_BadCondition) (.ref a_BadWorths) = some false) (kf_BadCondition_BadTurns : PySem.W.kitOne K (.ref a_BadCondition) (.ref a_BadTurns) = some false) (kf_BadCondition_BadEnd : PySem.W.kitOne K (.ref a_BadCondition) (.ref a_BadEnd) = some false) (kf_BadCondition_BadCode : PySem.W.kitOne K (.ref a_BadCondition) (.ref a_BadCode) = some false) (kf_BadCondition_BadChances : PySem.W.kitOne K (.ref a_BadCondition) (.ref a_BadChances) = some false) (kf_BadCondition_TooMany : PySem.W.kitOne K (.ref a_BadCondition) (.ref a_TooMany) = some false) (kf_BadCondition_BadText : PySem.W.kitOne K (.ref a_BadCondition) (.ref a_BadText) = some false) (kv_BadCondition : PySem.W.kitOne K (.ref a_BadCondition) (.type "ValueError") = some true) (exc_BadCondition : ExcC K a_BadCondition)  : FnS P w K mg base 1 f fd q__law_class (spCls (nm11 a_BadText) (fun C => C = a_BadText ∨ C = a_BadCondition)) := by
  refine FnS.of F sc__law_class len__law_class fun cdv A outer s H vs Q p C d hr hz hf h => ⟨t__law_class K C p.1 d a_BadEnd a_BadTurns a_BadWorths a_BadCondition a_BadText a_TooMany a_BadChances a_BadCode, ?_, cls_run h (w__law_class kf_BadText_BadCondition kf_BadText_BadWorths kf_BadText_BadTurns kf_BadText_BadEnd kf_BadText_BadCode kf_BadText_BadChances kf_BadText_TooMany kt_BadText_BadText kv_BadText kt_BadCondition_BadCondition kf_BadCondition_BadWorths kf_BadCondition_BadTurns kf_BadCondition_BadEnd kf_BadCondition_BadCode kf_BadCondition_BadChances kf_BadCondition_TooMany kf_BadCondition_BadText kv_BadCondition)⟩
  have hu64 := hu64H hr
  have xC : ExcC K C := by obtain ⟨_, hC, _⟩ := h; rcases hC with hC | hC <;> rw [hC] <;> first | exact exc_BadText | exact exc_BadCondition
  exact (pss_cons (ps_set (i := 1) sc__law_class.nd rfl (Or.inl rfl) (pe_lst (pa_cons (pe_callB (call_isX xC (List.mem_singleton.mpr rfl) hz hf) (by rfl) hb.isinstance (by decide +kernel) (pa_cons (pv 0) (pa_cons (pe_glob rfl hc_BadCondition rfl) pa_nil))) (pa_cons (pe_callB (call_isX xC (List.mem_singleton.mpr rfl) hz hf) (by rfl) hb.isinstance (by decide +kernel) (pa_cons (pv 0) (pa_cons (pe_glob rfl hc_BadWorths rfl) pa_nil))) (pa_cons (pe_callB (call_isX xC (List.mem_singleton.mpr rfl) hz hf) (by rfl) hb.isinstance (by decide +kernel) (pa_cons (pv 0) (pa_cons (pe_glob rfl hc_BadTurns rfl) pa_nil))) (pa_cons (pe_callB (call_isX xC (List.mem_singleton.mpr rfl) hz hf) (by rfl) hb.isinstance (by decide +kernel) (pa_cons (pv 0) (pa_cons (pe_glob rfl hc_BadEnd rfl) pa_nil))) pa_nil))))))
    (pss_cons (ps_set (i := 1) sc__law_class.nd rfl (Or.inl rfl) (pe_op op_addU (pv 1) (pe_lst (pa_cons (pe_callB (call_isX xC (List.mem_singleton.mpr rfl) hz hf) (by rfl) hb.isinstance (by decide +kernel) (pa_cons (pv 0) (pa_cons (pe_glob rfl hc_BadCode rfl) pa_nil))) (pa_cons (pe_callB (call_isX xC (List.mem_singleton.mpr rfl) hz hf) (by rfl) hb.isinstance (by decide +kernel) (pa_cons (pv 0) (pa_cons (pe_glob rfl hc_BadChances rfl) pa_nil))) (pa_cons (pe_callB (call_isX xC (List.mem_singleton.mpr rfl) hz hf) (by rfl) hb.isinstance (by decide +kernel) (pa_cons (pv 0) (pa_cons (pe_glob rfl hc_TooMany rfl) pa_nil))) (pa_cons (pe_callB (call_isX xC (List.mem_singleton.mpr rfl) hz hf) (by rfl) hb.isinstance (by decide +kernel) (pa_cons (pv 0) (pa_cons (pe_glob rfl hc_BadText rfl) pa_nil))) pa_nil)))))))
    (pss_cons (ps_set (i := 2) sc__law_class.nd rfl (Or.inl rfl) (pe_lst (pa_cons pe_str (pa_cons pe_str (pa_cons pe_str (pa_cons pe_str (pa_cons pe_str (pa_cons pe_str (pa_cons pe_str (pa_cons pe_str pa_nil))))))))))
    (pss_one (ps_ret (pe_ifExp (PW.pt (pw_and (pt_cmpR (op_eqD hu64) (pe_bm PySem.F.plainAttrs_list PySem.F.slot_list_count PySem.F.type_list_count mt_cntF (pv 1) (pa_cons pe_bl pa_nil)) pe_int (nomark _)) (pw_and1 (pt_val (pe_callB (call_isX xC (List.mem_singleton.mpr rfl) hz hf) (by rfl) hb.isinstance (by decide +kernel) (pa_cons (pv 0) (pa_cons (pe_bltn (by rfl) hb.ValueError (by decide +kernel) rfl) pa_nil))))))) (pe_ix ix_seq (pv 2) (pe_bm PySem.F.plainAttrs_list PySem.F.slot_list_index PySem.F.type_list_index mt_index (pv 1) (pa_cons pe_bl pa_nil)) (fun _ _ => rfl)) pe_str))))))

/-! ### _law_part -/
abbrev s__law_part : Stmt := top 28
abbrev n__law_part : List Str := ["_law_box", "_law_many", "_law_things"]
abbrev q__law_part : List Str := ["_law_box", "_law_many", "_law_things"]
theorem sc__law_part : FnScope n__law_part q__law_part (defScope s__law_part) := ⟨rfl, rfl, rfl, by decide +kernel, rfl, by decide +kernel, by decide +kernel⟩

/-! ### _law_bare -/
abbrev s__law_bare : Stmt := top 29
abbrev n__law_bare : List Str := ["_law_box", "_law_many", "_law_things", "_law_left", "_law_word"]
abbrev q__law_bare : List Str := ["_law_box", "_law_many", "_law_things"]
theorem sc__law_bare : FnScope n__law_bare q__law_bare (defScope s__law_bare) := ⟨rfl, rfl, rfl, by decide +kernel, rfl, by decide +kernel, by decide +kernel⟩

/-! the law's own conditions -/
structure Things (ts : List Int) : Prop where
  len : 0 < ts.length ∧ ts.length ≤ 8
  ok : ∀ t ∈ ts, 0 ≤ t ∧ t < 8
def P_part (n : Nat) : Pre := fun ds Ψ => ∃ (m : Int) (ts : List Int), ds = [.int m, .list (ts.map .int)] ∧ 1 ≤ m ∧ m ≤ 12 ∧ Things ts ∧ 2 * m ≤ n ∧ ∀ c : Cn, (c.looks : Int) = m → c.ok → (c.deep : Int) ≤ 2 * m - 1 → Ψ c.D
def P_bare (n : Nat) : Pre := fun ds Ψ => ∃ (m : Int) (ts : List Int), ds = [.int m, .list (ts.map .int)] ∧ 1 ≤ m ∧ m ≤ 12 ∧ Things ts ∧ 2 * m - 1 ≤ n ∧ ∀ c : Cn, (c.looks : Int) = m → c.ok → (c.deep : Int) ≤ 2 * m - 2 → Ψ c.D
theorem len__law_part {n : Nat} : ∀ ds Ψ, P_part n ds Ψ → ds.length + 1 = q__law_part.length := fun ds Ψ ⟨_, _, e, _⟩ => by rw [e]; rfl
theorem len__law_bare {n : Nat} : ∀ ds Ψ, P_bare n ds Ψ → ds.length + 1 = q__law_bare.length := fun ds Ψ ⟨_, _, e, _⟩ => by rw [e]; rfl
theorem zero__law_part : ∀ vs H Q E, ¬ spB (P_part 0) vs H Q E := zeroB fun ds Ψ ⟨m, _, _, h, _, _, h2, _⟩ => by
  have h2 : 2 * m ≤ ((0 : Nat) : Int) := h2
  omega
theorem zero__law_bare : ∀ vs H Q E, ¬ spB (P_bare 0) vs H Q E := zeroB fun ds Ψ ⟨m, _, _, h, _, _, h2, _⟩ => by
  have h2 : 2 * m - 1 ≤ ((0 : Nat) : Int) := h2
  omega
theorem at_ts {ts : List Int} (h : Things ts) {r : Int} (r0 : 0 ≤ r) (r1 : r < (ts.length : Int)) : ∃ t, atI (ts.map PyData.int) r = some (.int t) ∧ 0 ≤ t ∧ t < 8 := by
  have hl : r.toNat < ts.length := by omega
  have e : ts[r.toNat]? = some ts[r.toNat] := List.getElem?_eq_getElem hl
  have q : atI (ts.map PyData.int) ((r.toNat : Nat) : Int) = some (.int ts[r.toNat]) := atI_nat (by rw [List.getElem?_map, e]; rfl)
  rw [show ((r.toNat : Nat) : Int) = r from by omega] at q
  exact ⟨_, q, h.ok _ (List.getElem_mem hl)⟩
theorem at_left {m q r : Int} (hm : 2 ≤ m) (q0 : 0 ≤ q) (q1 : q < m - 1) (r0 : 0 ≤ r) (r1 : r < 4) : ∃ k : Int, atI [PyData.int 1, .int (m - 1), .int (1 + q), .int (m / 2)] r = some (.int k) ∧ 1 ≤ k ∧ k ≤ m - 1 := by
  have : r = 0 ∨ r = 1 ∨ r = 2 ∨ r = 3 := by omega
  rcases this with rfl | rfl | rfl | rfl
  · exact ⟨1, rfl, by omega, by omega⟩
  · exact ⟨m - 1, rfl, by omega, by omega⟩
  · exact ⟨1 + q, rfl, by omega, by omega⟩
  · exact ⟨m / 2, rfl, by omega, by omega⟩
theorem at_word {r : Int} (r0 : 0 ≤ r) (r1 : r < 2) : ∃ b, atI [PyData.str wAnd, .str wOr] r = some (.str (wOf b)) := by
  have : r = 0 ∨ r = 1 := by omega
  rcases this with rfl | rfl
  · exact ⟨true, rfl⟩
  · exact ⟨false, rfl⟩


def t__law_part (K : PySem.W.Frag) (n : Nat) : TS :=
  (tSeq (tIfS (tTest (tOp (rEqD K) (tCall (spB P_take) [] E0 (tCons (tVar 0) (tCons (tC (.int 5)) tNil))) (tC (.int 1)))) (tRet (tTup (tCons (tC (.str "not")) (tCons (tCall (spB (P_bare n)) [] E0 (tCons (tVar 0) (tCons (tVar 1) (tCons (tVar 2) tNil)))) tNil)))) tNext)
  (tRet (tCall (spB (P_bare n)) [] E0 (tCons (tVar 0) (tCons (tVar 1) (tCons (tVar 2) tNil))))))

def t__law_bare (K : PySem.W.Frag) (n : Nat) : TS :=
  (tSeq (tIfS (tTest (tOp (rEqD K) (tVar 1) (tC (.int 1)))) (tRet (tTup (tCons (tC (.str "look")) (tCons (tOp (rIx K) (tVar 2) (tCall (spB P_take) [] E0 (tCons (tVar 0) (tCons (tCB (rLenU K) (tCons (tVar 2) tNil)) tNil)))) tNil)))) tNext)
  (tSeq (tAsg (tOp (rIx K) (tLst (tCons (tC (.int 1)) (tCons (tOp rSubI (tVar 1) (tC (.int 1))) (tCons (tOp (rAddU K) (tC (.int 1)) (tCall (spB P_take) [] E0 (tCons (tVar 0) (tCons (tOp rSubI (tVar 1) (tC (.int 1))) tNil)))) (tCons (tOp rDivI (tVar 1) (tC (.int 2))) tNil))))) (tCall (spB P_take) [] E0 (tCons (tVar 0) (tCons (tC (.int 4)) tNil)))) (gName 3))
  (tSeq (tAsg (tOp (rIx K) (tLst (tCons (tC (.str "and")) (tCons (tC (.str "or")) tNil))) (tCall (spB P_take) [] E0 (tCons (tVar 0) (tCons (tC (.int 2)) tNil)))) (gName 4))
  (tRet (tTup (tCons (tVar 4) (tCons (tCall (spB (P_part n)) [] E0 (tCons (tVar 0) (tCons (tVar 3) (tCons (tVar 2) tNil)))) (tCons (tCall (spB (P_part n)) [] E0 (tCons (tVar 0) (tCons (tOp rSubI (tVar 1) (tVar 3)) (tCons (tVar 2) tNil)))) tNil))))))))

theorem w__law_part (n : Nat) {K : PySem.W.Frag} : ∀ b l ds Ψ, P_part (n + 1) ds Ψ → WS (bxS b l) (t__law_part K n) () (initB b n__law_part ds) (fun x _ => Ψ x) (fun _ _ => Ψ .none) := by
  rintro b l ds Ψ ⟨m, ts, rfl, h1, h2, ht, hn, q⟩
  unfold t__law_part
  repeat walk_at "j"
  refine ⟨5, rfl, by omega, by omega, fun r r0 r1 => ?_⟩
  repeat walk_at "j"
  refine ifD (fun h => ?_) (fun h => ?_)
  · repeat walk_at "j"
    refine ⟨m, ts, rfl, h1, h2, ht, by omega, fun c hc ok hd => ?_⟩
    repeat walk_at "j"
    exact q (.nt c) hc ok (by show ((c.deep + 1 : Nat) : Int) ≤ _; omega)
  · repeat walk_at "j"
    exact ⟨m, ts, rfl, h1, h2, ht, by omega, fun c hc ok hd => q c hc ok (by omega)⟩

theorem w__law_bare (n : Nat) {K : PySem.W.Frag} : ∀ b l ds Ψ, P_bare (n + 1) ds Ψ → WS (bxS b l) (t__law_bare K n) () (initB b n__law_bare ds) (fun x _ => Ψ x) (fun _ _ => Ψ .none) := by
  rintro b l ds Ψ ⟨m, ts, rfl, h1, h2, ht, hn, q⟩
  unfold t__law_bare
  repeat walk_at "j"
  refine ifD (fun h => ?_) (fun h => ?_)
  · repeat walk_at "j"
    refine ⟨_, rfl, by rw [List.length_map]; have := ht.len; omega, by rw [List.length_map]; have := ht.len; omega, fun r r0 r1 => ?_⟩
    rw [List.length_map] at r1
    obtain ⟨t, e, t0, t1⟩ := at_ts ht r0 r1
    refine rd_ixL e ?_
    repeat walk_at "j"
    exact q (.look t) (by show ((1 : Nat) : Int) = m; omega) ⟨t0, t1⟩ (by show ((0 : Nat) : Int) ≤ _; omega)
  · repeat walk_at "j"
    refine ⟨_, rfl, by omega, by omega, fun r r0 r1 => ?_⟩
    repeat walk_at "j"
    refine ⟨_, rfl, by omega, by omega, fun r2 r20 r21 => ?_⟩
    obtain ⟨k, e, k0, k1⟩ := at_left (by omega) r0 r1 r20 r21
    refine rd_ixL e ?_
    repeat walk_at "j"
    refine ⟨_, rfl, by omega, by omega, fun r3 r30 r31 => ?_⟩
    obtain ⟨w, e⟩ := at_word r30 r31
    refine rd_ixL e ?_
    repeat walk_at "j"
    refine ⟨k, ts, rfl, k0, by omega, ht, by omega, fun c hc okc dc => ?_⟩
    repeat walk_at "j"
    refine ⟨m - k, ts, rfl, by omega, by omega, ht, by omega, fun d hd okd dd => ?_⟩
    repeat walk_at "j"
    have q := q (.pr w c d) (by show ((c.looks + d.looks : Nat) : Int) = m; omega) ⟨okc, okd⟩ (by show ((max c.deep d.deep + 1 : Nat) : Int) ≤ _; omega)
    rw [D_pr] at q
    exact q

theorem ok__law_part {P : Program} {w : World} {K : PySem.W.Frag} {mg : Str → Option Value} {base : Heap} {f : Addr} {fd : FuncData}  (n : Nat) (F : Fun K "_law_part" "_law_part" s__law_part f fd) (hb : Blt mg) (c__law_take : Cal P w K mg base 1 "_law_take" q__law_take (spB P_take)) (c__law_bare : Cal P w K mg base (n + 1) "_law_bare" q__law_bare (spB (P_bare n)))  : FnOk P w K mg base CX0 (n + 1 + 1) f fd q__law_part (spB (P_part (n + 1))) := by
  refine fnB F sc__law_part len__law_part (t := t__law_part K n) (fun cdv A outer s H E hr => ?_) (w__law_part n )
  have hu64 := hr.units
  have hu := hu_of hr
  exact (pss_cons (ps_if (pt_cmpR (op_eqD hu64) (pe_callC c__law_take (hr.mono (by omega)) rfl (pa_cons (pv 0) (pa_cons pe_int pa_nil))) pe_int (nomark _)) (pss_one (ps_ret (pe_tup (pa_cons pe_str (pa_cons (pe_callC c__law_bare (hr.mono (by omega)) rfl (pa_cons (pv 0) (pa_cons (pv 1) (pa_cons (pv 2) pa_nil)))) pa_nil))))) pss_nil)
    (pss_one (ps_ret (pe_callC c__law_bare (hr.mono (by omega)) rfl (pa_cons (pv 0) (pa_cons (pv 1) (pa_cons (pv 2) pa_nil)))))))

theorem ok__law_bare {P : Program} {w : World} {K : PySem.W.Frag} {mg : Str → Option Value} {base : Heap} {f : Addr} {fd : FuncData}  (n : Nat) (F : Fun K "_law_bare" "_law_bare" s__law_bare f fd) (hb : Blt mg) (c__law_take : Cal P w K mg base 1 "_law_take" q__law_take (spB P_take)) (c__law_part : Cal P w K mg base (n + 1) "_law_part" q__law_part (spB (P_part n)))  : FnOk P w K mg base CX0 (n + 1 + 1) f fd q__law_bare (spB (P_bare (n + 1))) := by
  refine fnB F sc__law_bare len__law_bare (t := t__law_bare K n) (fun cdv A outer s H E hr => ?_) (w__law_bare n )
  have hu64 := hr.units
  have hu := hu_of hr
  exact (pss_cons (ps_if (pt_cmpR (op_eqD hu64) (pv 1) pe_int (nomark _)) (pss_one (ps_ret (pe_tup (pa_cons pe_str (pa_cons (pe_ix ix_seq (pv 2) (pe_callC c__law_take (hr.mono (by omega)) rfl (pa_cons (pv 0) (pa_cons (pe_callB call_lenU (by rfl) hb.len (by decide +kernel) (pa_cons (pv 2) pa_nil)) pa_nil))) (fun _ _ => rfl)) pa_nil))))) pss_nil)
    (pss_cons (ps_set (i := 3) sc__law_bare.nd rfl (Or.inl rfl) (pe_ix ix_seq (pe_lst (pa_cons pe_int (pa_cons (pe_op op_subU (pv 1) pe_int) (pa_cons (pe_op op_addU pe_int (pe_callC c__law_take (hr.mono (by omega)) rfl (pa_cons (pv 0) (pa_cons (pe_op op_subU (pv 1) pe_int) pa_nil)))) (pa_cons (pe_op op_divU (pv 1) pe_int) pa_nil))))) (pe_callC c__law_take (hr.mono (by omega)) rfl (pa_cons (pv 0) (pa_cons pe_int pa_nil))) (fun _ _ => rfl)))
    (pss_cons (ps_set (i := 4) sc__law_bare.nd rfl (Or.inl rfl) (pe_ix ix_seq (pe_lst (pa_cons pe_str (pa_cons pe_str pa_nil))) (pe_callC c__law_take (hr.mono (by omega)) rfl (pa_cons (pv 0) (pa_cons pe_int pa_nil))) (fun _ _ => rfl)))
    (pss_one (ps_ret (pe_tup (pa_cons (pv 4) (pa_cons (pe_callC c__law_part (hr.mono (by omega)) rfl (pa_cons (pv 0) (pa_cons (pv 3) (pa_cons (pv 2) pa_nil)))) (pa_cons (pe_callC c__law_part (hr.mono (by omega)) rfl (pa_cons (pv 0) (pa_cons (pe_op op_subU (pv 1) (pv 3)) (pa_cons (pv 2) pa_nil)))) pa_nil)))))))))

theorem all__law_part {P : Program} {w : World} {K : PySem.W.Frag} {mg : Str → Option Value} {base : Heap}  {f__law_part : Addr} {d__law_part : FuncData} (F__law_part : Fun K "_law_part" "_law_part" s__law_part f__law_part d__law_part) (m__law_part : mg "_law_part" = some (.ref f__law_part)) (B__law_part : Binds K d__law_part q__law_part []) {f__law_bare : Addr} {d__law_bare : FuncData} (F__law_bare : Fun K "_law_bare" "_law_bare" s__law_bare f__law_bare d__law_bare) (m__law_bare : mg "_law_bare" = some (.ref f__law_bare)) (B__law_bare : Binds K d__law_bare q__law_bare []) (hb : Blt mg) (c__law_take : Cal P w K mg base 1 "_law_take" q__law_take (spB P_take)) : ∀ n : Nat, Cal P w K mg base (n + 1) "_law_part" q__law_part (spB (P_part n)) ∧ Cal P w K mg base (n + 1) "_law_bare" q__law_bare (spB (P_bare n))
  | 0 => ⟨cal_zero F__law_part.kp m__law_part B__law_part zero__law_part, cal_zero F__law_bare.kp m__law_bare B__law_bare zero__law_bare⟩
  | n + 1 => by
    have ⟨c__law_part, c__law_bare⟩ := all__law_part (P := P) (w := w) (base := base) F__law_part m__law_part B__law_part F__law_bare m__law_bare B__law_bare hb c__law_take n
    have e : n + 1 + 1 = n + 1 + 1 := by omega
    rw [e]
    exact ⟨⟨_, _, m__law_part, F__law_part.kp, B__law_part, ok__law_part n F__law_part hb c__law_take c__law_bare⟩, ⟨_, _, m__law_bare, F__law_bare.kp, B__law_bare, ok__law_bare n F__law_bare hb c__law_take c__law_part⟩⟩

/-! ### _law_deep -/
abbrev s__law_deep : Stmt := top 30
abbrev n__law_deep : List Str := ["_law_part_here", "_law_one"]
abbrev q__law_deep : List Str := ["_law_part_here"]
theorem sc__law_deep : FnScope n__law_deep q__law_deep (defScope s__law_deep) := ⟨rfl, rfl, rfl, by decide +kernel, rfl, by decide +kernel, by decide +kernel⟩

def P_deep (n : Nat) : Pre := fun ds Ψ => ∃ c : Cn, ds = [c.D] ∧ c.deep < n ∧ Ψ (.int c.deep)
theorem len__law_deep {n : Nat} : ∀ ds Ψ, P_deep n ds Ψ → ds.length = 1 := fun ds Ψ ⟨_, e, _⟩ => by rw [e]; rfl
theorem zero__law_deep : ∀ vs H Q E, ¬ spD (P_deep 0) vs H Q E := zeroD fun ds Ψ ⟨_, _, h, _⟩ => absurd h (Nat.not_lt_zero _)

def t__law_deep (K : PySem.W.Frag) (n : Nat) : TS :=
  (tRet (tIf (tTest (tOp (rEqD K) (tOp (rIx K) (tVar 0) (tC (.int 0))) (tC (.str "look")))) (tC (.int 0)) (tOp (rAddU K) (tC (.int 1)) (tCB (rMax K) (tCons (tLc (iSeq K (tSl (rSlU K) (tVar 0) (tPart (tC (.int 1))) tNoPart)) (gName 1) tYes (tCall (spD (P_deep n)) [] E0 (tCons (tVar 1) tNil)) [1]) tNil)))))

theorem w__law_deep (n : Nat) {K : PySem.W.Frag} : ∀ ds Ψ, P_deep (n + 1) ds Ψ → WS uS (t__law_deep K n) () (init n__law_deep ds) (fun x _ => Ψ x) (fun _ _ => Ψ .none) := by
  rintro ds Ψ ⟨c, rfl, hd, q⟩
  unfold t__law_deep
  cases c with
  | look i =>
    unfold Cn.D
    repeat walk_at "j"
    exact q
  | nt c =>
    have hd : c.deep + 1 < n + 1 := hd
    unfold Cn.D
    repeat walk_at "j"
    walk_at "js"
    repeat walk_at "j"
    refine ⟨c, rfl, by omega, ?_⟩
    repeat walk_at "j"
    refine rc_max (ns := [(c.deep : Int)]) rfl (by simp) fun m h1 h2 => ?_
    have e : m = (c.deep : Int) := by simpa using h1
    subst e
    repeat walk_at "j"
    have e : (1 : Int) + (c.deep : Int) = ((c.deep + 1 : Nat) : Int) := by omega
    rw [e]
    exact q
  | pr b x y =>
    have hd : max x.deep y.deep + 1 < n + 1 := hd
    rw [D_pr]
    cases b <;> unfold wOf
    all_goals
      repeat walk_at "j"
      walk_at "js"
      repeat walk_at "j"
      refine ⟨x, rfl, by omega, ?_⟩
      repeat walk_at "j"
      refine ⟨y, rfl, by omega, ?_⟩
      repeat walk_at "j"
      refine rc_max (ns := [(x.deep : Int), (y.deep : Int)]) rfl (by simp) fun m h1 h2 => ?_
      have e1 : m = (x.deep : Int) ∨ m = (y.deep : Int) := by simpa using h1
      have e2 := h2 (x.deep : Int) (by simp)
      have e3 := h2 (y.deep : Int) (by simp)
      repeat walk_at "j"
      have e : (1 : Int) + m = ((max x.deep y.deep + 1 : Nat) : Int) := by omega
      rw [e]
      exact q

theorem ok__law_deep {P : Program} {w : World} {K : PySem.W.Frag} {mg : Str → Option Value} {base : Heap} {f : Addr} {fd : FuncData}  (n : Nat) (F : Fun K "_law_deep" "_law_deep" s__law_deep f fd) (hb : Blt mg) (c__law_deep : Cal P w K mg base (n + 0) "_law_deep" q__law_deep (spD (P_deep n)))  : FnOk P w K mg base CX0 (n + 0 + 1) f fd q__law_deep (spD (P_deep (n + 1))) := by
  refine fnD F sc__law_deep len__law_deep (t := t__law_deep K n) (fun cdv A outer s H E hr => ?_) (w__law_deep n )
  have hu64 := hr.units
  have hu := hu_of hr
  exact (pss_one (ps_ret (pe_ifExp (pt_cmpR (op_eqD hu64) (pe_ix ix_seq (pv 0) pe_int (fun _ _ => rfl)) pe_str (nomark _)) pe_int (pe_op op_addU pe_int (pe_callB (cr_max rfl) (by rfl) hb.max (by decide +kernel) (pa_cons (pe_lc (own := [("_law_one", 1)]) (by rfl) sc__law_deep.nd (pi_seq (pe_slice sl_U (pv 0) (po_some pe_int) po_none)) (blkOk_by (own := [("_law_one", 1)]) (N := n__law_deep) (sc := defScope s__law_deep) (by decide +kernel)) (fun _ _ _ _ _ => (pg_name (i := 1) sc__law_deep.nd rfl (Or.inl rfl))) (fun _ _ _ _ _ => pts_nil) (fun _ _ _ _ _ => (pe_callC c__law_deep (hr.mono (by omega)) rfl (pa_cons (pv 1) pa_nil)))) pa_nil))))))

theorem all__law_deep {P : Program} {w : World} {K : PySem.W.Frag} {mg : Str → Option Value} {base : Heap}  {f__law_deep : Addr} {d__law_deep : FuncData} (F__law_deep : Fun K "_law_deep" "_law_deep" s__law_deep f__law_deep d__law_deep) (m__law_deep : mg "_law_deep" = some (.ref f__law_deep)) (B__law_deep : Binds K d__law_deep q__law_deep []) (hb : Blt mg)  : ∀ n : Nat, Cal P w K mg base (n + 0) "_law_deep" q__law_deep (spD (P_deep n))
  | 0 => cal_zero F__law_deep.kp m__law_deep B__law_deep zero__law_deep
  | n + 1 => by
    have c__law_deep := all__law_deep (P := P) (w := w) (base := base) F__law_deep m__law_deep B__law_deep hb  n
    have e : n + 1 + 0 = n + 0 + 1 := by omega
    rw [e]
    exact ⟨_, _, m__law_deep, F__law_deep.kp, B__law_deep, ok__law_deep n F__law_deep hb c__law_deep⟩

/-! ### _law_condition -/
abbrev s__law_condition : Stmt := top 31
abbrev n__law_condition : List Str := ["_law_box", "_law_most", "_law_things", "_law_part_here"]
abbrev q__law_condition : List Str := ["_law_box", "_law_most"]
theorem sc__law_condition : FnScope n__law_condition q__law_condition (defScope s__law_condition) := ⟨rfl, rfl, rfl, by decide +kernel, rfl, by decide +kernel, by decide +kernel⟩

def P_condition : Pre := fun ds Ψ => ∃ m : Int, ds = [.int m] ∧ 1 ≤ m ∧ m ≤ 12 ∧ ∀ c : Cn, (c.looks : Int) ≤ m → c.ok → c.deep ≤ 10 → Ψ c.D
theorem len__law_condition : ∀ ds Ψ, P_condition ds Ψ → ds.length + 1 = q__law_condition.length := fun ds Ψ ⟨_, e, _⟩ => by rw [e]; rfl
theorem at_things {r : Int} (r0 : 0 ≤ r) (r1 : r < 3) : ∃ ts : List Int, atI [PyData.list [.int 0, .int 1, .int 2], .list [.int 0, .int 1, .int 2, .int 3, .int 4, .int 5, .int 6, .int 7], .list [.int 5, .int 7]] r = some (.list (ts.map .int)) ∧ Things ts := by
  have : r = 0 ∨ r = 1 ∨ r = 2 := by omega
  rcases this with rfl | rfl | rfl
  · exact ⟨[0, 1, 2], rfl, ⟨by decide, by decide⟩, by decide⟩
  · exact ⟨[0, 1, 2, 3, 4, 5, 6, 7], rfl, ⟨by decide, by decide⟩, by decide⟩
  · exact ⟨[5, 7], rfl, ⟨by decide, by decide⟩, by decide⟩
/-- a condition's first part -/
theorem first_part {c : Cn} (h : 0 < c.deep) : ∃ d : Cn, (∃ w r, c.D = .tuple (w :: d.D :: r)) ∧ d.deep < c.deep ∧ d.looks ≤ c.looks ∧ (c.ok → d.ok) := by
  cases c with
  | look i => exact absurd h (Nat.lt_irrefl _)
  | nt c => exact ⟨c, ⟨_, _, rfl⟩, Nat.lt_succ_self _, Nat.le_refl _, fun z => z⟩
  | pr b x y => exact ⟨x, ⟨_, _, D_pr b x y⟩, by show x.deep < max x.deep y.deep + 1; omega, Nat.le_add_right _ _, fun z => z.1⟩

def t__law_condition (K : PySem.W.Frag) : TS :=
  (tSeq (tAsg (tOp (rIx K) (tLst (tCons (tLst (tCons (tC (.int 0)) (tCons (tC (.int 1)) (tCons (tC (.int 2)) tNil)))) (tCons (tLst (tCons (tC (.int 0)) (tCons (tC (.int 1)) (tCons (tC (.int 2)) (tCons (tC (.int 3)) (tCons (tC (.int 4)) (tCons (tC (.int 5)) (tCons (tC (.int 6)) (tCons (tC (.int 7)) tNil))))))))) (tCons (tLst (tCons (tC (.int 5)) (tCons (tC (.int 7)) tNil))) tNil)))) (tCall (spB P_take) [] E0 (tCons (tVar 0) (tCons (tC (.int 3)) tNil)))) (gName 2))
  (tSeq (tAsg (tCall (spB (P_part 24)) [] E0 (tCons (tVar 0) (tCons (tOp (rAddU K) (tC (.int 1)) (tCall (spB P_take) [] E0 (tCons (tVar 0) (tCons (tVar 1) tNil)))) (tCons (tVar 2) tNil)))) (gName 3))
  (tSeq (tWhile (tTest (tOp rGtI (tCall (spD (P_deep 201)) [] E0 (tCons (tVar 3) tNil)) (tC (.int 10)))) (tAsg (tOp (rIx K) (tVar 3) (tC (.int 1))) (gName 3)))
  (tRet (tVar 3)))))

theorem w__law_condition {K : PySem.W.Frag} : ∀ b l ds Ψ, P_condition ds Ψ → WS (bxS b l) (t__law_condition K) () (initB b n__law_condition ds) (fun x _ => Ψ x) (fun _ _ => Ψ .none) := by
  rintro b l ds Ψ ⟨m, rfl, h1, h2, q⟩
  unfold t__law_condition
  repeat walk_at "j"
  refine ⟨3, rfl, by omega, by omega, fun r r0 r1 => ?_⟩
  obtain ⟨ts, e, ht⟩ := at_things r0 r1
  refine rd_ixL e ?_
  repeat walk_at "j"
  refine ⟨m, rfl, by omega, by omega, fun k k0 k1 => ?_⟩
  repeat walk_at "j"
  refine ⟨1 + k, ts, rfl, by omega, by omega, ht, by omega, fun c hc ok hd => ?_⟩
  repeat walk_at "j"
  refine ws_while (W' := fun n ρ _ => ∃ c : Cn, ρ = [some (.v (.ref b)), some (.d (.int m)), some (.d (.list (ts.map .int))), some (.d c.D)] ∧ c.deep = n ∧ c.deep < 30 ∧ (c.looks : Int) ≤ m ∧ c.ok) (m0 := c.deep) ⟨c, rfl, rfl, by omega, by omega, ok⟩ ?_
  rintro n ρ _ ⟨c, rfl, rfl, hd, hl, ok⟩
  repeat walk_at "j"
  refine ⟨c, rfl, by omega, ?_⟩
  repeat walk_at "j"
  refine ifD (fun h => ?_) (fun h => ?_)
  · obtain ⟨d, ⟨w, r, e⟩, d1, d2, d3⟩ := first_part (c := c) (by omega)
    rw [e]
    repeat walk_at "j"
    exact ⟨d.deep, d1, d, rfl, rfl, by omega, by omega, d3 ok⟩
  · repeat walk_at "j"
    exact q c hl ok (by omega)

theorem ok__law_condition {P : Program} {w : World} {K : PySem.W.Frag} {mg : Str → Option Value} {base : Heap} {f : Addr} {fd : FuncData}  (F : Fun K "_law_condition" "_law_condition" s__law_condition f fd) (hb : Blt mg) (c__law_take : Cal P w K mg base 1 "_law_take" q__law_take (spB P_take)) (c__law_part : Cal P w K mg base 25 "_law_part" q__law_part (spB (P_part 24))) (c__law_deep : Cal P w K mg base 201 "_law_deep" q__law_deep (spD (P_deep 201)))  : FnOk P w K mg base CX0 202 f fd q__law_condition (spB P_condition) := by
  refine fnB F sc__law_condition len__law_condition (t := t__law_condition K) (fun cdv A outer s H E hr => ?_) (w__law_condition )
  have hu64 := hr.units
  have hu := hu_of hr
  exact (pss_cons (ps_set (i := 2) sc__law_condition.nd rfl (Or.inl rfl) (pe_ix ix_seq (pe_lst (pa_cons (pe_lst (pa_cons pe_int (pa_cons pe_int (pa_cons pe_int pa_nil)))) (pa_cons (pe_lst (pa_cons pe_int (pa_cons pe_int (pa_cons pe_int (pa_cons pe_int (pa_cons pe_int (pa_cons pe_int (pa_cons pe_int (pa_cons pe_int pa_nil))))))))) (pa_cons (pe_lst (pa_cons pe_int (pa_cons pe_int pa_nil))) pa_nil)))) (pe_callC c__law_take (hr.mono (by omega)) rfl (pa_cons (pv 0) (pa_cons pe_int pa_nil))) (fun _ _ => rfl)))
    (pss_cons (ps_set (i := 3) sc__law_condition.nd rfl (Or.inl rfl) (pe_callC c__law_part (hr.mono (by omega)) rfl (pa_cons (pv 0) (pa_cons (pe_op op_addU pe_int (pe_callC c__law_take (hr.mono (by omega)) rfl (pa_cons (pv 0) (pa_cons (pv 1) pa_nil)))) (pa_cons (pv 2) pa_nil)))))
    (pss_cons (ps_while PassesOwn.never (pt_cmpR op_gtU (pe_callC c__law_deep (hr.mono (by omega)) rfl (pa_cons (pv 3) pa_nil)) pe_int (nomark _)) (pss_one (ps_set (i := 3) sc__law_condition.nd rfl (Or.inl rfl) (pe_ix ix_seq (pv 3) pe_int (fun _ _ => rfl)))))
    (pss_one (ps_ret (pv 3))))))

/-! ### _law_text -/
abbrev s__law_text : Stmt := top 32
abbrev n__law_text : List Str := ["_law_part_here", "_law_least", "_law_sign", "_law_rank", "_law_text_here"]
abbrev q__law_text : List Str := ["_law_part_here", "_law_least"]
theorem sc__law_text : FnScope n__law_text q__law_text (defScope s__law_text) := ⟨rfl, rfl, rfl, by decide +kernel, rfl, by decide +kernel, by decide +kernel⟩

def P_ltext (n : Nat) : Pre := fun ds Ψ => ∃ (c : Cn) (k : Nat), ds = [c.D, .int (k : Int)] ∧ k ≤ 2 ∧ c.ok ∧ c.deep < n ∧ (c.wth (k + 1)).length ≤ 1000 ∧ Ψ (.str (tx (c.wth (k + 1))))
theorem len__law_text {n : Nat} : ∀ ds Ψ, P_ltext n ds Ψ → ds.length = 2 := fun ds Ψ ⟨_, _, e, _⟩ => by rw [e]; rfl
theorem zero__law_text : ∀ vs H Q E, ¬ spD (P_ltext 0) vs H Q E := zeroD fun ds Ψ ⟨_, _, _, _, _, h, _⟩ => absurd h (Nat.not_lt_zero _)
theorem wth_pr {b : Bool} {x y : Cn} {k : Nat} : (Cn.pr b x y).wth k = brk (decide (k ≤ rkOf b)) (x.wth (rkOf b) ++ sgOf b :: y.wth (rkOf b + 1)) := by
  show brk (decide (k ≤ (Cn.pr b x y).rank)) _ = _
  rw [rank_pr]
  rfl

def t__law_text (K : PySem.W.Frag) (n : Nat) : TS :=
  (tSeq (tIfS (tTest (tOp (rEqD K) (tOp (rIx K) (tVar 0) (tC (.int 0))) (tC (.str "look")))) (tRet (tOp (rIx K) (tC (.str "abcdefgh")) (tOp (rIx K) (tVar 0) (tC (.int 1))))) tNext)
  (tSeq (tIfS (tTest (tOp (rEqD K) (tOp (rIx K) (tVar 0) (tC (.int 0))) (tC (.str "not")))) (tRet (tOp (rAddU K) (tC (.str "!")) (tCall (spD (P_ltext n)) [] E0 (tCons (tOp (rIx K) (tVar 0) (tC (.int 1))) (tCons (tC (.int 2)) tNil))))) tNext)
  (tSeq (tAsg (tOp (rIx K) (tLst (tCons (tTup (tCons (tC (.str "|")) (tCons (tC (.int 0)) tNil))) (tCons (tTup (tCons (tC (.str "&")) (tCons (tC (.int 1)) tNil))) tNil))) (tCB rInt (tCons (tOp (rEqD K) (tOp (rIx K) (tVar 0) (tC (.int 0))) (tC (.str "and"))) tNil))) (gTup K 2 (gCons (gName 2) (gCons (gName 3) gNil))))
  (tSeq (tAsg (tOp (rAddU K) (tOp (rAddU K) (tCall (spD (P_ltext n)) [] E0 (tCons (tOp (rIx K) (tVar 0) (tC (.int 1))) (tCons (tVar 3) tNil))) (tVar 2)) (tCall (spD (P_ltext n)) [] E0 (tCons (tOp (rIx K) (tVar 0) (tC (.int 2))) (tCons (tOp (rAddU K) (tVar 3) (tC (.int 1))) tNil)))) (gName 4))
  (tRet (tIf (tTest (tOp rGeI (tVar 3) (tVar 1))) (tVar 4) (tOp (rAddU K) (tOp (rAddU K) (tC (.str "(")) (tVar 4)) (tC (.str ")")))))))))

theorem w__law_text (n : Nat) {K : PySem.W.Frag} : ∀ ds Ψ, P_ltext (n + 1) ds Ψ → WS uS (t__law_text K n) () (init n__law_text ds) (fun x _ => Ψ x) (fun _ _ => Ψ .none) := by
  rintro ds Ψ ⟨c, k, rfl, hk, ok, hd, hl, q⟩
  unfold t__law_text
  cases c with
  | look i =>
    have ok : 0 ≤ i ∧ i < 8 := ok
    unfold Cn.D
    repeat walk_at "j"
    rw [s_abc]
    refine rd_ixS (c := 97 + i.toNat) (by rw [tx_len]; decide) ?_ ?_
    · rw [tx_cps, show i = ((i.toNat : Nat) : Int) from by omega]
      exact atI_nat (let_at (by omega))
    · refine Eq.mp (congrArg (fun z => Ψ (.str (tx z))) ?_) q
      exact if_pos (decide_eq_true (show k + 1 ≤ 4 by omega))
  | nt c =>
    have hd : c.deep + 1 < n + 1 := hd
    have e : (Cn.nt c).wth (k + 1) = 33 :: c.wth 3 := by
      exact if_pos (decide_eq_true (show k + 1 ≤ 3 by omega))
    rw [e] at hl q
    rw [List.length_cons] at hl
    unfold Cn.D
    repeat walk_at "j"
    refine ⟨c, 2, rfl, by omega, ok, by omega, by show (c.wth 3).length ≤ _; omega, ?_⟩
    rw [s_bang]
    refine rd_addX (by show 1 + (c.wth 3).length ≤ _; omega) ?_
    exact q
  | pr b x y =>
    have hd : max x.deep y.deep + 1 < n + 1 := hd
    have dx : x.deep ≤ max x.deep y.deep := Nat.le_max_left _ _
    have dy : y.deep ≤ max x.deep y.deep := Nat.le_max_right _ _
    rw [wth_pr] at hl q
    have hb := (brk_len (decide (k + 1 ≤ rkOf b)) (x.wth (rkOf b) ++ sgOf b :: y.wth (rkOf b + 1))).1
    have hb2 := hb
    rw [List.length_append, List.length_cons] at hb2
    cases b with
    | true =>
      unfold Cn.D
      repeat walk_at "j"
      rw [show (wAnd == Str.ofString "and") = true from by decide +kernel]
      refine rd_ixL (d := .tuple [.str (tx [38]), .int 1]) (by rw [← s_and]; rfl) ?_
      repeat walk_at "j"
      have hx : (x.wth (1 + 1)).length + ((y.wth (1 + 2)).length + 1) ≤ _ := hb2
      refine ⟨x, 1, rfl, by omega, ok.1, by omega, by omega, ?_⟩
      repeat walk_at "j"
      refine rd_addX (by rw [List.length_singleton]; omega) ?_
      repeat walk_at "j"
      refine ⟨y, 1 + 1, rfl, by omega, ok.2, by omega, by show (y.wth (1 + 2)).length ≤ _; omega, ?_⟩
      refine rd_addX (by rw [List.length_append, List.length_singleton]; show _ + (y.wth (1 + 2)).length ≤ _; omega) ?_
      rw [List.append_assoc]
      repeat walk_at "j"
      by_cases h : k + 1 ≤ rkOf true
      · have h' : k + 1 ≤ 1 + 1 := h
        rw [decide_eq_true h] at q
        rw [decide_eq_true (show ((1 : Int) ≥ (k : Int)) by omega)]
        repeat walk_at "j"
        exact q
      · have h' : ¬ k + 1 ≤ 1 + 1 := h
        rw [decide_eq_false h] at q
        rw [decide_eq_false (show ¬ ((1 : Int) ≥ (k : Int)) by omega)]
        repeat walk_at "j"
        rw [s_open]
        refine rd_addX (by simp; show 1 + ((x.wth (1 + 1)).length + ((y.wth (1 + 2)).length + 1)) ≤ _; omega) ?_
        repeat walk_at "j"
        rw [s_close]
        refine rd_addX (by simp; show (x.wth (1 + 1)).length + ((y.wth (1 + 2)).length + 1) ≤ _; omega) ?_
        exact q
    | false =>
      unfold Cn.D
      repeat walk_at "j"
      rw [show (wOr == Str.ofString "and") = false from by decide +kernel]
      refine rd_ixL (d := .tuple [.str (tx [124]), .int 0]) (by rw [← s_or]; rfl) ?_
      repeat walk_at "j"
      have hx : (x.wth (0 + 1)).length + ((y.wth (0 + 2)).length + 1) ≤ _ := hb2
      refine ⟨x, 0, rfl, by omega, ok.1, by omega, by omega, ?_⟩
      repeat walk_at "j"
      refine rd_addX (by rw [List.length_singleton]; omega) ?_
      repeat walk_at "j"
      refine ⟨y, 0 + 1, rfl, by omega, ok.2, by omega, by show (y.wth (0 + 2)).length ≤ _; omega, ?_⟩
      refine rd_addX (by rw [List.length_append, List.length_singleton]; show _ + (y.wth (0 + 2)).length ≤ _; omega) ?_
      rw [List.append_assoc]
      repeat walk_at "j"
      by_cases h : k + 1 ≤ rkOf false
      · have h' : k + 1 ≤ 0 + 1 := h
        rw [decide_eq_true h] at q
        rw [decide_eq_true (show ((0 : Int) ≥ (k : Int)) by omega)]
        repeat walk_at "j"
        exact q
      · have h' : ¬ k + 1 ≤ 0 + 1 := h
        rw [decide_eq_false h] at q
        rw [decide_eq_false (show ¬ ((0 : Int) ≥ (k : Int)) by omega)]
        repeat walk_at "j"
        rw [s_open]
        refine rd_addX (by simp; show 1 + ((x.wth (0 + 1)).length + ((y.wth (0 + 2)).length + 1)) ≤ _; omega) ?_
        repeat walk_at "j"
        rw [s_close]
        refine rd_addX (by simp; show (x.wth (0 + 1)).length + ((y.wth (0 + 2)).length + 1) ≤ _; omega) ?_
        exact q

theorem ok__law_text {P : Program} {w : World} {K : PySem.W.Frag} {mg : Str → Option Value} {base : Heap} {f : Addr} {fd : FuncData}  (n : Nat) (F : Fun K "_law_text" "_law_text" s__law_text f fd) (hb : Blt mg) (c__law_text : Cal P w K mg base (n + 0) "_law_text" q__law_text (spD (P_ltext n)))  : FnOk P w K mg base CX0 (n + 0 + 1) f fd q__law_text (spD (P_ltext (n + 1))) := by
  refine fnD F sc__law_text len__law_text (t := t__law_text K n) (fun cdv A outer s H E hr => ?_) (w__law_text n )
  have hu64 := hr.units
  have hu := hu_of hr
  exact (pss_cons (ps_if (pt_cmpR (op_eqD hu64) (pe_ix ix_seq (pv 0) pe_int (fun _ _ => rfl)) pe_str (nomark _)) (pss_one (ps_ret (pe_ix ix_seq pe_str (pe_ix ix_seq (pv 0) pe_int (fun _ _ => rfl)) (fun _ _ => rfl)))) pss_nil)
    (pss_cons (ps_if (pt_cmpR (op_eqD hu64) (pe_ix ix_seq (pv 0) pe_int (fun _ _ => rfl)) pe_str (nomark _)) (pss_one (ps_ret (pe_op op_addU pe_str (pe_callC c__law_text (hr.mono (by omega)) rfl (pa_cons (pe_ix ix_seq (pv 0) pe_int (fun _ _ => rfl)) (pa_cons pe_int pa_nil)))))) pss_nil)
    (pss_cons (ps_asg (pe_ix ix_seq (pe_lst (pa_cons (pe_tup (pa_cons pe_str (pa_cons pe_int pa_nil))) (pa_cons (pe_tup (pa_cons pe_str (pa_cons pe_int pa_nil))) pa_nil))) (pe_callTy call_intU (by rfl) hb.int (by decide +kernel) (pa_cons (pe_cmpR (op_eqD hu64) (pe_ix ix_seq (pv 0) pe_int (fun _ _ => rfl)) pe_str (nomark _)) pa_nil)) (fun _ _ => rfl)) (pg_tup rfl (pgs_cons (pg_name (i := 2) sc__law_text.nd rfl (Or.inl rfl)) (pgs_cons (pg_name (i := 3) sc__law_text.nd rfl (Or.inl rfl)) pgs_nil))))
    (pss_cons (ps_set (i := 4) sc__law_text.nd rfl (Or.inl rfl) (pe_op op_addU (pe_op op_addU (pe_callC c__law_text (hr.mono (by omega)) rfl (pa_cons (pe_ix ix_seq (pv 0) pe_int (fun _ _ => rfl)) (pa_cons (pv 3) pa_nil))) (pv 2)) (pe_callC c__law_text (hr.mono (by omega)) rfl (pa_cons (pe_ix ix_seq (pv 0) pe_int (fun _ _ => rfl)) (pa_cons (pe_op op_addU (pv 3) pe_int) pa_nil)))))
    (pss_one (ps_ret (pe_ifExp (pt_cmpR op_geU (pv 3) (pv 1) (nomark _)) (pv 4) (pe_op op_addU (pe_op op_addU pe_str (pv 4)) pe_str))))))))

theorem all__law_text {P : Program} {w : World} {K : PySem.W.Frag} {mg : Str → Option Value} {base : Heap}  {f__law_text : Addr} {d__law_text : FuncData} (F__law_text : Fun K "_law_text" "_law_text" s__law_text f__law_text d__law_text) (m__law_text : mg "_law_text" = some (.ref f__law_text)) (B__law_text : Binds K d__law_text q__law_text []) (hb : Blt mg)  : ∀ n : Nat, Cal P w K mg base (n + 0) "_law_text" q__law_text (spD (P_ltext n))
  | 0 => cal_zero F__law_text.kp m__law_text B__law_text zero__law_text
  | n + 1 => by
    have c__law_text := all__law_text (P := P) (w := w) (base := base) F__law_text m__law_text B__law_text hb  n
    have e : n + 1 + 0 = n + 0 + 1 := by omega
    rw [e]
    exact ⟨_, _, m__law_text, F__law_text.kp, B__law_text, ok__law_text n F__law_text hb c__law_text⟩

/-! ### _law_spoilt -/
abbrev s__law_spoilt : Stmt := top 33
abbrev n__law_spoilt : List Str := ["_law_box", "_law_text_here", "_law_deed", "_law_place", "_law_end", "_law_signs", "_law_sign"]
abbrev q__law_spoilt : List Str := ["_law_box", "_law_text_here"]
theorem sc__law_spoilt : FnScope n__law_spoilt q__law_spoilt (defScope s__law_spoilt) := ⟨rfl, rfl, rfl, by decide +kernel, rfl, by decide +kernel, by decide +kernel⟩

def P_spoilt : Pre := fun ds Ψ => ∃ t : List Nat, ds = [.str (tx t)] ∧ (∀ c ∈ t, c < 128) ∧ t.length ≤ 10000 ∧ ∀ t' : List Nat, (∀ c ∈ t', c < 128) → t'.length ≤ 3 * t.length + 2 → Ψ (.str (tx t'))
theorem len__law_spoilt : ∀ ds Ψ, P_spoilt ds Ψ → ds.length + 1 = q__law_spoilt.length := fun ds Ψ ⟨_, e, _⟩ => by rw [e]; rfl
abbrev sgnS : Str := "ab&|!()h cdefgijklmnopqrstuvwxyz0123456789-+*/<>=~^?\x40[]{}_.,:;#$'`ABCDEFGHIJKLMNOPQRSTUVWXYZ"
theorem sgn_len : sgnS.length = 92 := by decide +kernel
theorem sgn_all : sgnS.cps.toList.all (fun c => decide (c < 128)) = true := by decide +kernel
theorem sgn_at {r : Int} (h0 : 0 ≤ r) (h1 : r < 92) : ∃ c, atI sgnS.cps.toList r = some c ∧ c < 128 := by
  have hl : r.toNat < sgnS.cps.toList.length := by
    have : sgnS.cps.toList.length = 92 := sgn_len
    omega
  have e := List.getElem?_eq_getElem hl
  refine ⟨sgnS.cps.toList[r.toNat], ?_, ?_⟩
  · have := atI_nat e
    rw [show ((r.toNat : Nat) : Int) = r from by omega] at this
    exact this
  · have := List.all_eq_true.mp sgn_all _ (List.getElem_mem hl)
    exact of_decide_eq_true this
theorem s_co : Str.ofString ")(" = tx [41, 40] := by decide +kernel

def t__law_spoilt (K : PySem.W.Frag) : TS :=
  (tSeq (tAsg (tCall (spB P_take) [] E0 (tCons (tVar 0) (tCons (tC (.int 6)) tNil))) (gName 2))
  (tSeq (tAsg (tCall (spB P_take) [] E0 (tCons (tVar 0) (tCons (tOp (rAddU K) (tCB (rLenU K) (tCons (tVar 1) tNil)) (tC (.int 1))) tNil))) (gName 3))
  (tSeq (tAsg (tOp (rAddU K) (tVar 3) (tCall (spB P_take) [] E0 (tCons (tVar 0) (tCons (tOp rSubI (tOp (rAddU K) (tCB (rLenU K) (tCons (tVar 1) tNil)) (tC (.int 1))) (tVar 3)) tNil)))) (gName 4))
  (tSeq (tIfS (tTest (tOp (rEqD K) (tVar 2) (tC (.int 0)))) (tRet (tOp (rAddU K) (tOp (rAddU K) (tOp (rAddU K) (tOp (rAddU K) (tSl (rSlU K) (tVar 1) tNoPart (tPart (tVar 3))) (tC (.str "("))) (tSl (rSlU K) (tVar 1) (tPart (tVar 3)) (tPart (tVar 4)))) (tC (.str ")"))) (tSl (rSlU K) (tVar 1) (tPart (tVar 4)) tNoPart))) tNext)
  (tSeq (tIfS (tTest (tOp (rEqD K) (tVar 2) (tC (.int 1)))) (tRet (tOp (rAddU K) (tSl (rSlU K) (tVar 1) tNoPart (tPart (tVar 4))) (tSl (rSlU K) (tVar 1) (tPart (tVar 3)) tNoPart))) tNext)
  (tSeq (tAsg (tC (.str "ab&|!()h cdefgijklmnopqrstuvwxyz0123456789-+*/<>=~^?\x40[]{}_.,:;#$'`ABCDEFGHIJKLMNOPQRSTUVWXYZ")) (gName 5))
  (tSeq (tAsg (tOp (rIx K) (tVar 5) (tCall (spB P_take) [] E0 (tCons (tVar 0) (tCons (tOp (rIx K) (tLst (tCons (tC (.int 8)) (tCons (tCB (rLenU K) (tCons (tVar 5) tNil)) tNil))) (tCall (spB P_take) [] E0 (tCons (tVar 0) (tCons (tC (.int 2)) tNil)))) tNil)))) (gName 6))
  (tRet (tOp (rAddU K) (tOp (rAddU K) (tSl (rSlU K) (tVar 1) tNoPart (tPart (tVar 3))) (tOp (rIx K) (tLst (tCons (tVar 6) (tCons (tVar 6) (tCons (tC (.str "")) (tCons (tC (.str ")(")) tNil))))) (tOp rSubI (tVar 2) (tC (.int 2))))) (tSl (rSlU K) (tVar 1) (tPart (tOp (rAddU K) (tVar 3) (tCB rInt (tCons (tOp rGtI (tVar 2) (tC (.int 2))) tNil)))) tNoPart))))))))))

theorem w__law_spoilt {K : PySem.W.Frag} : ∀ b l ds Ψ, P_spoilt ds Ψ → WS (bxS b l) (t__law_spoilt K) () (initB b n__law_spoilt ds) (fun x _ => Ψ x) (fun _ _ => Ψ .none) := by
  rintro b l ds Ψ ⟨t, rfl, hA, hl, q⟩
  have hlen : (tx t).length ≤ 100000 := by rw [tx_len]; omega
  unfold t__law_spoilt
  repeat walk_at "j"
  refine ⟨6, rfl, by omega, by omega, fun d d0 d1 => ?_⟩
  repeat walk_at "j"
  refine rc_lenS hlen ?_
  repeat walk_at "j"
  refine ⟨_, rfl, by rw [tx_len]; omega, by rw [tx_len]; omega, fun p p0 p1 => ?_⟩
  rw [tx_len] at p1
  repeat walk_at "j"
  refine rc_lenS hlen ?_
  repeat walk_at "j"
  refine ⟨_, rfl, by rw [tx_len]; omega, by rw [tx_len]; omega, fun e e0 e1 => ?_⟩
  repeat walk_at "j"
  obtain ⟨m1, x1, y1, z1⟩ := cutS_sub t none (some p)
  obtain ⟨m2, x2, y2, z2⟩ := cutS_sub t (some p) (some (p + e))
  obtain ⟨m3, x3, y3, z3⟩ := cutS_sub t (some (p + e)) none
  obtain ⟨m4, x4, y4, z4⟩ := cutS_sub t none (some (p + e))
  obtain ⟨m5, x5, y5, z5⟩ := cutS_sub t (some p) none
  refine ifD (fun h => ?_) (fun h => ?_)
  · repeat walk_at "j"
    refine rs_str hlen ?_
    rw [x1]
    repeat walk_at "j"
    rw [s_open]
    refine rd_addX (by simp; omega) ?_
    repeat walk_at "j"
    refine rs_str hlen ?_
    rw [x2]
    refine rd_addX (by simp; omega) ?_
    repeat walk_at "j"
    rw [s_close]
    refine rd_addX (by simp; omega) ?_
    repeat walk_at "j"
    refine rs_str hlen ?_
    rw [x3]
    refine rd_addX (by simp; omega) ?_
    refine q _ (fun c hc => ?_) (by simp; omega)
    simp only [List.mem_append, List.mem_singleton] at hc
    rcases hc with (((hc | hc) | hc) | hc) | hc
    · exact hA c (z1 c hc)
    · omega
    · exact hA c (z2 c hc)
    · omega
    · exact hA c (z3 c hc)
  · repeat walk_at "j"
    refine ifD (fun h => ?_) (fun h => ?_)
    · repeat walk_at "j"
      refine rs_str hlen ?_
      rw [x4]
      repeat walk_at "j"
      refine rs_str hlen ?_
      rw [x5]
      refine rd_addX (by omega) ?_
      refine q _ (fun c hc => ?_) (by simp; omega)
      rcases List.mem_append.mp hc with hc | hc
      · exact hA c (z4 c hc)
      · exact hA c (z5 c hc)
    · repeat walk_at "j"
      refine rc_lenS (by rw [sgn_len]; decide) ?_
      rw [sgn_len]
      repeat walk_at "j"
      refine ⟨2, rfl, by omega, by omega, fun r r0 r1 => ?_⟩
      have hm : ∃ m : Int, atI [PyData.int 8, .int ((92 : Nat) : Int)] r = some (.int m) ∧ 0 < m ∧ m ≤ 92 := by
        have : r = 0 ∨ r = 1 := by omega
        rcases this with rfl | rfl
        · exact ⟨8, rfl, by decide, by decide⟩
        · exact ⟨92, rfl, by decide, by decide⟩
      obtain ⟨m, em, m0, m1'⟩ := hm
      refine rd_ixL em ?_
      repeat walk_at "j"
      refine ⟨m, rfl, m0, by omega, fun k k0 k1 => ?_⟩
      obtain ⟨c, ec, hc⟩ := sgn_at k0 (show k < 92 by omega)
      refine rd_ixS (c := c) (by rw [sgn_len]; decide) ec ?_
      rw [show ({ cps := #[c] } : Str) = tx [c] from rfl]
      repeat walk_at "j"
      refine rs_str hlen ?_
      rw [x1]
      repeat walk_at "j"
      have hw : ∃ w : List Nat, atI [PyData.str (tx [c]), .str (tx [c]), .str (Str.ofString ""), .str (Str.ofString ")(")] (d - 2) = some (.str (tx w)) ∧ w.length ≤ 2 ∧ ∀ x ∈ w, x < 128 := by
        have : d = 2 ∨ d = 3 ∨ d = 4 ∨ d = 5 := by omega
        rcases this with rfl | rfl | rfl | rfl
        · exact ⟨[c], rfl, by simp, by simpa using hc⟩
        · exact ⟨[c], rfl, by simp, by simpa using hc⟩
        · exact ⟨[], by rw [s_none]; rfl, by simp, by simp⟩
        · exact ⟨[41, 40], by rw [s_co]; rfl, by simp, by simp⟩
      obtain ⟨w, ew, hw1, hw2⟩ := hw
      refine rd_ixL ew ?_
      refine rd_addX (by omega) ?_
      repeat walk_at "j"
      obtain ⟨m6, x6, y6, z6⟩ := cutS_sub t (some (p + if decide (d > 2) = true then 1 else 0)) none
      refine rs_str hlen ?_
      rw [x6]
      refine rd_addX (by simp; omega) ?_
      refine q _ (fun x hx => ?_) (by simp; omega)
      simp only [List.mem_append] at hx
      rcases hx with (hx | hx) | hx
      · exact hA x (z1 x hx)
      · exact hw2 x hx
      · exact hA x (z6 x hx)

theorem ok__law_spoilt {P : Program} {w : World} {K : PySem.W.Frag} {mg : Str → Option Value} {base : Heap} {f : Addr} {fd : FuncData}  (F : Fun K "_law_spoilt" "_law_spoilt" s__law_spoilt f fd) (hb : Blt mg) (c__law_take : Cal P w K mg base 1 "_law_take" q__law_take (spB P_take))  : FnOk P w K mg base CX0 2 f fd q__law_spoilt (spB P_spoilt) := by
  refine fnB F sc__law_spoilt len__law_spoilt (t := t__law_spoilt K) (fun cdv A outer s H E hr => ?_) (w__law_spoilt )
  have hu64 := hr.units
  have hu := hu_of hr
  exact (pss_cons (ps_set (i := 2) sc__law_spoilt.nd rfl (Or.inl rfl) (pe_callC c__law_take (hr.mono (by omega)) rfl (pa_cons (pv 0) (pa_cons pe_int pa_nil))))
    (pss_cons (ps_set (i := 3) sc__law_spoilt.nd rfl (Or.inl rfl) (pe_callC c__law_take (hr.mono (by omega)) rfl (pa_cons (pv 0) (pa_cons (pe_op op_addU (pe_callB call_lenU (by rfl) hb.len (by decide +kernel) (pa_cons (pv 1) pa_nil)) pe_int) pa_nil))))
    (pss_cons (ps_set (i := 4) sc__law_spoilt.nd rfl (Or.inl rfl) (pe_op op_addU (pv 3) (pe_callC c__law_take (hr.mono (by omega)) rfl (pa_cons (pv 0) (pa_cons (pe_op op_subU (pe_op op_addU (pe_callB call_lenU (by rfl) hb.len (by decide +kernel) (pa_cons (pv 1) pa_nil)) pe_int) (pv 3)) pa_nil)))))
    (pss_cons (ps_if (pt_cmpR (op_eqD hu64) (pv 2) pe_int (nomark _)) (pss_one (ps_ret (pe_op op_addU (pe_op op_addU (pe_op op_addU (pe_op op_addU (pe_slice sl_U (pv 1) po_none (po_some (pv 3))) pe_str) (pe_slice sl_U (pv 1) (po_some (pv 3)) (po_some (pv 4)))) pe_str) (pe_slice sl_U (pv 1) (po_some (pv 4)) po_none)))) pss_nil)
    (pss_cons (ps_if (pt_cmpR (op_eqD hu64) (pv 2) pe_int (nomark _)) (pss_one (ps_ret (pe_op op_addU (pe_slice sl_U (pv 1) po_none (po_some (pv 4))) (pe_slice sl_U (pv 1) (po_some (pv 3)) po_none)))) pss_nil)
    (pss_cons (ps_set (i := 5) sc__law_spoilt.nd rfl (Or.inl rfl) pe_str)
    (pss_cons (ps_set (i := 6) sc__law_spoilt.nd rfl (Or.inl rfl) (pe_ix ix_seq (pv 5) (pe_callC c__law_take (hr.mono (by omega)) rfl (pa_cons (pv 0) (pa_cons (pe_ix ix_seq (pe_lst (pa_cons pe_int (pa_cons (pe_callB call_lenU (by rfl) hb.len (by decide +kernel) (pa_cons (pv 5) pa_nil)) pa_nil))) (pe_callC c__law_take (hr.mono (by omega)) rfl (pa_cons (pv 0) (pa_cons pe_int pa_nil))) (fun _ _ => rfl)) pa_nil))) (fun _ _ => rfl)))
    (pss_one (ps_ret (pe_op op_addU (pe_op op_addU (pe_slice sl_U (pv 1) po_none (po_some (pv 3))) (pe_ix ix_seq (pe_lst (pa_cons (pv 6) (pa_cons (pv 6) (pa_cons pe_str (pa_cons pe_str pa_nil))))) (pe_op op_subU (pv 2) pe_int) (fun _ _ => rfl))) (pe_slice sl_U (pv 1) (po_some (pe_op op_addU (pv 3) (pe_callTy call_intU (by rfl) hb.int (by decide +kernel) (pa_cons (pe_cmpR op_gtU (pv 2) pe_int (nomark _)) pa_nil)))) po_none)))))))))))

/-! ### _law_first -/
abbrev s__law_first : Stmt := top 34
abbrev n__law_first : List Str := ["_law_text_here", "_law_deep_here", "_law_ahead", "_law_place", "_law_sign", "_law_good"]
abbrev q__law_first : List Str := ["_law_text_here"]
theorem sc__law_first : FnScope n__law_first q__law_first (defScope s__law_first) := ⟨rfl, rfl, rfl, by decide +kernel, rfl, by decide +kernel, by decide +kernel⟩

def firstD (l : List Nat) : PyData := match badT l with
  | none => .none
  | some k => .int (k : Int)
def P_lfirst : Pre := fun ds Ψ => ∃ l : List Nat, ds = [.str (tx l)] ∧ (∀ c ∈ l, c < 128) ∧ l.length ≤ 10000 ∧ Ψ (firstD l)
theorem len__law_first : ∀ ds Ψ, P_lfirst ds Ψ → ds.length = 1 := fun ds Ψ ⟨_, e, _⟩ => by rw [e]; rfl
/-- the sign ahead -/
def Ahd (m : List Nat) (b : Bool) : Prop := (m = [] ∧ b = false) ∨ ∃ c, c < 128 ∧ m = [c] ∧ b = (isLet c || c == 41)

def lf_b2 (K : PySem.W.Frag) : TS :=
  (tSeq (tIfS (tNot (tB (tVar 5))) (tRet (tVar 3)) tNext)
  (tSeq (tAsg (tOp (rAddU K) (tVar 1) (tDGet2 (tDisp (cD [(Sum.inr "(", V.int (1)), (Sum.inr ")", V.int (-1))])) (tVar 4) (tC (.int 0)))) (gName 1))
  (tAsg (tVar 4) (gName 2))))

def lf_b (K : PySem.W.Frag) : TS :=
  (tSeq (tAsg (tOp (rIx K) (tVar 0) (tVar 3)) (gName 4))
  (tSeq (tIfS (tAnd (tTest (tOp (rNeD K) (tVar 2) (tC (.str "")))) (tTest (tOp (rInU K) (tVar 2) (tC (.str "abcdefgh)"))))) (tAsg (tOrV (tOp (rInU K) (tVar 4) (tTup (tCons (tC (.str "&")) (tCons (tC (.str "|")) tNil)))) (tAndV (tOp (rEqD K) (tVar 4) (tC (.str ")"))) (tOp rGtI (tVar 1) (tC (.int 0))))) (gName 5)) (tAsg (tOp (rInU K) (tVar 4) (tCB rListS (tCons (tC (.str "abcdefgh!(")) tNil))) (gName 5)))
  (lf_b2 K)))

def lf_e (K : PySem.W.Frag) : TS :=
  (tRet (tIf (tAnd (tTest (tOp (rNeD K) (tVar 2) (tC (.str "")))) (tAnd (tTest (tOp (rInU K) (tVar 2) (tC (.str "abcdefgh)")))) (tTest (tOp (rEqD K) (tVar 1) (tC (.int 0)))))) (tC .non) (tCB (rLenU K) (tCons (tVar 0) tNil))))

def t__law_first (K : PySem.W.Frag) : TS :=
  (tSeq (tAsg (tC (.int 0)) (gName 1))
  (tSeq (tAsg (tC (.str "")) (gName 2))
  (tSeq (tFor (iRng1 (tCons (tCB (rLenU K) (tCons (tVar 0) tNil)) tNil)) (gName 3) (lf_b K))
  (lf_e K))))

theorem w_lf_b2 {K : PySem.W.Frag} {l m : List Nat} {d c i : Nat} {b : Bool} (hc : c < 128) {R : PyData → Unit → Prop} {N : DEnv → Unit → Prop} (hR : stepT (d, b) c = none → R (.int (i : Int)) ())
    (hN : ∀ y, stepT (d, b) c = some y → ∀ ρ, LeE [some (.d (.str (tx l))), some (.d (.int (y.1 : Int))), some (.d (.str (tx [c]))), none, none, none] ρ → N ρ ()) :
    WS uS (lf_b2 K) () [some (.d (.str (tx l))), some (.d (.int (d : Int))), some (.d (.str (tx m))), some (.d (.int (i : Int))), some (.d (.str (tx [c]))), some (.d (.bool (goodT (d, b) c)))] R N := by
  have hg := step_good (d := d) (c := c) (b := b)
  unfold lf_b2
  repeat walk_at "j"
  cases e : stepT (d, b) c with
  | none =>
    rw [e] at hg
    rw [← hg]
    repeat walk_at "j"
    exact hR e
  | some y =>
    obtain ⟨h1, h2⟩ := step_is e
    rw [e] at hg
    rw [← hg]
    repeat walk_at "j"
    refine wp_brk rfl ?_
    repeat walk_at "j"
    rw [show (d : Int) + brV c = (y.1 : Int) from by rw [h2]; unfold brV; omega]
    refine hN y e _ ?_
    repeat constructor
theorem w__law_first {K : PySem.W.Frag} : ∀ ds Ψ, P_lfirst ds Ψ → WS uS (t__law_first K) () (init n__law_first ds) (fun x _ => Ψ x) (fun _ _ => Ψ .none) := by
  rintro ds Ψ ⟨l, rfl, hA, hl, q⟩
  unfold t__law_first
  repeat walk_at "j"
  refine ws_for_rangeX (fun a : (Nat × Bool) × List Nat => [some (.d (.str (tx l))), some (.d (.int (a.1.1 : Int))), some (.d (.str (tx a.2))), none, none, none]) (fun i a => scanT (l.take i) (0, false) = some a.1 ∧ Ahd a.2 a.1.2) ((0, false), []) ?_
  repeat walk_at "j"
  refine rc_lenS (by rw [tx_len]; omega) ?_
  repeat walk_at "j"
  rw [tx_len]
  refine ⟨by omega, by omega, by rw [s_none]; repeat constructor, ⟨rfl, .inl ⟨rfl, rfl⟩⟩, fun i s' a hi ⟨hJ, hm⟩ => ?_, fun s' a ⟨hJ, hm⟩ => ?_⟩
  · have hi : i < l.length := by omega
    have hc : l[i]? = some l[i] := List.getElem?_eq_getElem hi
    generalize l[i] = c at hc
    have hs : c < 128 := hA c (List.mem_of_getElem? hc)
    obtain ⟨⟨d, b⟩, m⟩ := a
    dsimp only at hJ hm ⊢
    have hx := badT_at hJ hc
    have fin : ∀ {g : Bool}, g = goodT (d, b) c → WS uS (lf_b2 K) () [some (.d (.str (tx l))), some (.d (.int (d : Int))), some (.d (.str (tx m))), some (.d (.int (i : Int))), some (.d (.str (tx [c]))), some (.d (.bool g))] (fun x _ => Ψ x) (fun ρ' _ => ∃ a' : (Nat × Bool) × List Nat, (scanT (l.take (i + 1)) (0, false) = some a'.1 ∧ Ahd a'.2 a'.1.2) ∧ LeE [some (.d (.str (tx l))), some (.d (.int (a'.1.1 : Int))), some (.d (.str (tx a'.2))), none, none, none] ρ') := fun e => by
      rw [e]
      refine w_lf_b2 hs (fun h => ?_) (fun y h ρ le => ?_)
      · rcases hx with ⟨_, h2⟩ | ⟨y, h2, _⟩
        · unfold firstD at q
          rw [h2] at q
          exact q
        · rw [h] at h2; cases h2
      · rcases hx with ⟨h2, _⟩ | ⟨y', h2, h3⟩
        · rw [h] at h2; cases h2
        · rw [h] at h2
          cases h2
          exact ⟨(y, [c]), ⟨h3, .inr ⟨c, hs, rfl, (step_is h).1⟩⟩, le⟩
    have hix : atI (tx l).cps.toList (i : Int) = some c := by rw [tx_cps]; exact atI_nat hc
    unfold lf_b
    repeat walk_at "j"
    refine rd_ixS (c := c) (by rw [tx_len]; omega) hix ?_
    rw [show ({ cps := #[c] } : Str) = tx [c] from rfl]
    repeat walk_at "j"
    rcases hm with ⟨rfl, hb⟩ | ⟨k, hk, rfl, hb⟩
    · rw [s_none]
      refine rd_neW (by decide +kernel) (by decide +kernel) ?_
      rw [show (!(tx [] == tx [])) = false from by simp]
      subst hb
      repeat walk_at "j"
      rw [s_first]
      refine rc_listS (by decide) ?_
      refine rd_inSL rfl ?_
      rw [mem_s1]
      repeat walk_at "j"
      exact fin rfl
    · rw [s_none]
      refine rd_neW (tx1_ok hk) (by decide +kernel) ?_
      rw [show (!(tx [k] == tx [])) = true from by
        rw [Bool.not_eq_true']
        exact beq_eq_false_iff_ne.mpr fun z => by have := tx_inj z; simp at this]
      repeat walk_at "j"
      refine rd_inS ?_
      rw [mem_b1, ← hb]
      refine ⟨_, rfl, ?_⟩
      clear hb
      cases b with
      | true =>
        repeat walk_at "j"
        refine rd_inST (l := [38, 124]) (by rw [s_and, s_or]; rfl) ?_
        rw [mem_o1]
        cases h1 : (c == 38 || c == 124) with
        | true =>
          repeat walk_at "j"
          exact fin (by unfold goodT; rw [if_pos rfl, h1]; rfl)
        | false =>
          repeat walk_at "j"
          rw [s_close]
          refine rd_eqW (tx1_ok hs) (tx1_ok (by decide)) ?_
          rw [tx1_eq]
          by_cases h2 : c = 41
          · rw [decide_eq_true h2]
            repeat walk_at "j"
            refine fin ?_
            unfold goodT
            rw [if_pos rfl, h1, h2]
            simp
          · rw [decide_eq_false h2]
            repeat walk_at "j"
            refine fin ?_
            unfold goodT
            rw [if_pos rfl, h1]
            simp [h2]
      | false =>
        repeat walk_at "j"
        rw [s_first]
        refine rc_listS (by decide) ?_
        refine rd_inSL rfl ?_
        rw [mem_s1]
        repeat walk_at "j"
        exact fin rfl
  · have he := badT_end (l := l) (by rw [← hJ]; congr 1; rw [show ((l.length : Nat) : Int).toNat = l.length from by omega, List.take_length])
    obtain ⟨⟨d, b⟩, m⟩ := a
    dsimp only at hJ hm he ⊢
    have bad : (d, b) ≠ (0, true) → Ψ (.int ((tx l).length : Int)) := fun h => by
      unfold firstD at q
      rw [he, if_neg h] at q
      rw [tx_len]
      exact q
    have good : (d, b) = (0, true) → Ψ .none := fun h => by
      unfold firstD at q
      rw [he, if_pos h] at q
      exact q
    unfold lf_e
    repeat walk_at "j"
    rcases hm with ⟨rfl, hb⟩ | ⟨k, hk, rfl, hb⟩
    · rw [s_none]
      refine rd_neW (by decide +kernel) (by decide +kernel) ?_
      rw [show (!(tx [] == tx [])) = false from by simp]
      repeat walk_at "j"
      refine rc_lenS (by rw [tx_len]; omega) ?_
      exact bad (by rw [hb]; simp)
    · rw [s_none]
      refine rd_neW (tx1_ok hk) (by decide +kernel) ?_
      rw [show (!(tx [k] == tx [])) = true from by
        rw [Bool.not_eq_true']
        exact beq_eq_false_iff_ne.mpr fun z => by have := tx_inj z; simp at this]
      repeat walk_at "j"
      refine rd_inS ?_
      rw [mem_b1, ← hb]
      cases b with
      | false =>
        repeat walk_at "j"
        refine rc_lenS (by rw [tx_len]; omega) ?_
        exact bad (by simp)
      | true =>
        repeat walk_at "j"
        refine ifD (fun h => ?_) (fun h => ?_)
        · repeat walk_at "j"
          exact good (by rw [show d = 0 by omega])
        · repeat walk_at "j"
          refine rc_lenS (by rw [tx_len]; omega) ?_
          exact bad (by simp; omega)

theorem ok__law_first {P : Program} {w : World} {K : PySem.W.Frag} {mg : Str → Option Value} {base : Heap} {f : Addr} {fd : FuncData}  (F : Fun K "_law_first" "_law_first" s__law_first f fd) (hb : Blt mg)   : FnOk P w K mg base CX0 1 f fd q__law_first (spD P_lfirst) := by
  refine fnD F sc__law_first len__law_first (t := t__law_first K) (fun cdv A outer s H E hr => ?_) (w__law_first )
  have hu64 := hr.units
  have hu := hu_of hr
  exact (pss_cons (ps_set (i := 1) sc__law_first.nd rfl (Or.inl rfl) pe_int)
    (pss_cons (ps_set (i := 2) sc__law_first.nd rfl (Or.inl rfl) pe_str)
    (pss_cons (ps_for PassesOwn.never rfl (pi_range1 (by rfl) hb.range (pa_cons (pe_callB call_lenU (by rfl) hb.len (by decide +kernel) (pa_cons (pv 0) pa_nil)) pa_nil)) (pg_name (i := 3) sc__law_first.nd rfl (Or.inl rfl)) (pss_cons (ps_set (i := 4) sc__law_first.nd rfl (Or.inl rfl) (pe_ix ix_seq (pv 0) (pv 3) (fun _ _ => rfl)))
    (pss_cons (ps_if (PW.pt (pw_and (pt_cmpR (op_neD hu64) (pv 2) pe_str (nomark _)) (pw_and1 (pt_cmpR op_inU (pv 2) pe_str (by with_unfolding_all rfl))))) (pss_one (ps_set (i := 5) sc__law_first.nd rfl (Or.inl rfl) (pe_or (pe_cmpR op_inU (pv 4) (pe_tup (pa_cons pe_str (pa_cons pe_str pa_nil))) (by with_unfolding_all rfl)) (pe_one (pe_and (pe_cmpR (op_eqD hu64) (pv 4) pe_str (nomark _)) (pe_one (pe_cmpR op_gtU (pv 1) pe_int (nomark _)))))))) (pss_one (ps_set (i := 5) sc__law_first.nd rfl (Or.inl rfl) (pe_cmpR op_inU (pv 4) (pe_callTy (call_listS rfl) (by rfl) hb.list (by decide +kernel) (pa_cons pe_str pa_nil)) (by with_unfolding_all rfl)))))
    (pss_cons (ps_if (pt_not (pt_val (pv 5))) (pss_one (ps_ret (pv 3))) pss_nil)
    (pss_cons (ps_set (i := 1) sc__law_first.nd rfl (Or.inl rfl) (pe_op op_addU (pv 1) (pe_dget2 hu (pe_disp (pps_cons pe_str pe_int (pps_cons pe_str (pe_negC (n := 1)) pps_nil)) (by rfl) (by rfl) (fun z => by cases z) (by decide)) (pv 4) pe_int ⟨rfl, rfl, rfl, rfl⟩)))
    (pss_one (ps_set (i := 2) sc__law_first.nd rfl (Or.inl rfl) (pv 4))))))))
    (pss_one (ps_ret (pe_ifExp (PW.pt (pw_and (pt_cmpR (op_neD hu64) (pv 2) pe_str (nomark _)) (pw_and (pt_cmpR op_inU (pv 2) pe_str (by with_unfolding_all rfl)) (pw_and1 (pt_cmpR (op_eqD hu64) (pv 1) pe_int (nomark _)))))) pe_non (pe_callB call_lenU (by rfl) hb.len (by decide +kernel) (pa_cons (pv 0) pa_nil))))))))

/-! ### _law_parts -/
abbrev s__law_parts : Stmt := top 35
abbrev n__law_parts : List Str := ["_law_text_here", "_law_sign", "_law_found", "_law_deep_here", "_law_one"]
abbrev q__law_parts : List Str := ["_law_text_here", "_law_sign"]
theorem sc__law_parts : FnScope n__law_parts q__law_parts (defScope s__law_parts) := ⟨rfl, rfl, rfl, by decide +kernel, rfl, by decide +kernel, by decide +kernel⟩

def partD_ (m : List Nat) : PyData := .str (tx m)
def P_lparts : Pre := fun ds Ψ => ∃ (l : List Nat) (sg : Nat), ds = [.str (tx l), .str (tx [sg])] ∧ scanT l (0, false) = some (0, true) ∧ l.length ≤ 10000 ∧ sg < 128 ∧ Ψ (.list ((partsP sg l).map partD_))
theorem len__law_parts : ∀ ds Ψ, P_lparts ds Ψ → ds.length = 2 := fun ds Ψ ⟨_, _, e, _⟩ => by rw [e]; rfl

def lp_b (K : PySem.W.Frag) : TS :=
  (tSeq (tAsg (tOp (rAddU K) (tVar 3) (tDGet2 (tDisp (cD [(Sum.inr "(", V.int (1)), (Sum.inr ")", V.int (-1))])) (tVar 4) (tC (.int 0)))) (gName 3))
  (tIfS (tAnd (tTest (tOp (rEqD K) (tVar 4) (tVar 1))) (tTest (tOp (rEqD K) (tVar 3) (tC (.int 0))))) (tDrop (tBM K "list" rAppend (tVar 2) (tCons (tC (.str "")) tNil))) (tAsg (tOp (rAddU K) (tOp (rIx K) (tVar 2) (tUn rNegI (tC (.int 1)))) (tVar 4)) (gSub (tVar 2) (tUn rNegI (tC (.int 1))) rSetL))))

def t__law_parts (K : PySem.W.Frag) : TS :=
  (tSeq (tAsg (tLst (tCons (tC (.str "")) tNil)) (gName 2))
  (tSeq (tAsg (tC (.int 0)) (gName 3))
  (tSeq (tFor (iStr (tVar 0)) (gName 4) (lp_b K))
  (tRet (tVar 2)))))

theorem w_lp_b {K : PySem.W.Frag} {l : List Nat} {sg c : Nat} {a : Nat × List (List Nat) × List Nat} {b : Bool} {y : Nat × Bool} (hs : sg < 128) (hc : c < 128) (hy : stepT (a.1, b) c = some y) (h1 : a.2.1.length ≤ 10000) (h2 : a.2.2.length ≤ 10000) {R : PyData → Unit → Prop} {N : DEnv → Unit → Prop}
    (hN : ∀ ρ, LeE [some (.d (.str (tx l))), some (.d (.str (tx [sg]))), some (.own (((stepP sg a c).2.1 ++ [(stepP sg a c).2.2]).map partD_)), some (.d (.int ((stepP sg a c).1 : Int))), none] ρ → N ρ ()) :
    WS uS (lp_b K) () [some (.d (.str (tx l))), some (.d (.str (tx [sg]))), some (.own ((a.2.1 ++ [a.2.2]).map partD_)), some (.d (.int (a.1 : Int))), some (.d (.str (tx [c])))] R N := by
  obtain ⟨d, fs, cur⟩ := a
  dsimp only at hy h1 h2 ⊢
  obtain ⟨g1, g2⟩ := step_is hy
  have g3 := dep_is hy
  unfold lp_b
  repeat walk_at "j"
  refine wp_brk rfl ?_
  repeat walk_at "j"
  rw [show (d : Int) + brV c = ((depS d c : Nat) : Int) from by rw [← g3, g2]; unfold brV; omega]
  repeat walk_at "j"
  refine rd_eqW (tx1_ok hc) (tx1_ok hs) ?_
  rw [tx1_eq]
  have other : ¬ (c = sg ∧ depS d c = 0) → WS uS (tAsg (tOp (rAddU K) (tOp (rIx K) (tVar 2) (tUn rNegI (tC (.int 1)))) (tVar 4)) (gSub (tVar 2) (tUn rNegI (tC (.int 1))) rSetL)) () [some (.d (.str (tx l))), some (.d (.str (tx [sg]))), some (.own ((fs ++ [cur]).map partD_)), some (.d (.int ((depS d c : Nat) : Int))), some (.d (.str (tx [c])))] R N := fun h => by
    unfold stepP at hN
    rw [if_neg h] at hN
    rw [List.map_append]
    refine ws_setX rfl ?_
    repeat walk_at "j"
    refine ⟨_, _, rfl, atI_last _ _, ?_⟩
    repeat walk_at "j"
    show RD (rAddU K) (.str (tx cur)) (.str (tx [c])) _
    refine rd_addX (by rw [List.length_singleton]; omega) ?_
    repeat walk_at "j"
    refine ⟨_, _, rfl, by rw [List.length_append]; exact ixN_last, ?_⟩
    refine hN _ ?_
    rw [show List.map partD_ [cur] = [partD_ cur] from rfl, set_last, List.map_append]
    repeat constructor
  by_cases h : c = sg
  · rw [decide_eq_true h]
    repeat walk_at "j"
    refine ifD (fun h0 => ?_) (fun h0 => ?_)
    · have h0 : depS d c = 0 := by omega
      unfold stepP at hN
      rw [if_pos ⟨h, h0⟩] at hN
      repeat walk_at "j"
      refine ⟨by rw [List.length_map, List.length_append, List.length_singleton]; omega, ?_⟩
      refine hN _ ?_
      rw [s_none, show List.map partD_ (fs ++ [cur] ++ [([] : List Nat)]) = List.map partD_ (fs ++ [cur]) ++ [PyData.str (tx [])] from by simp [partD_]]
      repeat constructor
    · exact other fun z => by omega
  · rw [decide_eq_false h]
    exact ⟨false, rfl, ifF rfl (ifF rfl (other fun z => h z.1))⟩
theorem w__law_parts {K : PySem.W.Frag} : ∀ ds Ψ, P_lparts ds Ψ → WS uS (t__law_parts K) () (init n__law_parts ds) (fun x _ => Ψ x) (fun _ _ => Ψ .none) := by
  rintro ds Ψ ⟨l, sg, rfl, hs, hl, hg, q⟩
  unfold t__law_parts
  repeat walk_at "jo"
  refine ws_for_strX (fun a : Nat × List (List Nat) × List Nat => [some (.d (.str (tx l))), some (.d (.str (tx [sg]))), some (.own ((a.2.1 ++ [a.2.2]).map partD_)), some (.d (.int (a.1 : Int))), none])
    (fun i a => a = runP sg (l.take i) (0, [], []) ∧ (a.2.1.length ≤ i ∧ a.2.2.length ≤ i) ∧ ∃ b, scanT (l.take i) (0, false) = some (a.1, b)) (0, [], []) ?_
  repeat walk_at "j"
  refine ⟨by rw [s_none]; repeat constructor, ⟨rfl, ⟨Nat.le_refl _, Nat.le_refl _⟩, _, rfl⟩, fun i c s' a hc ⟨ea, ⟨h1, h2⟩, b, hb⟩ => ?_, fun s' a ⟨ea, _⟩ => ?_⟩
  · obtain ⟨x, hx, y, hy, hz⟩ := scan_take hs hc
    rw [hb] at hx
    cases hx
    have hsm := scan_small hs c (List.mem_of_getElem? hc)
    have hi := (List.getElem?_eq_some_iff.mp hc).1
    repeat walk_at "j"
    refine w_lp_b hg hsm hy (by omega) (by omega) fun ρ le => ?_
    refine ⟨stepP sg a c, ⟨by rw [runP_take hc, ← ea], ?_, y.2, ?_⟩, le⟩
    · unfold stepP
      split
      · simp; omega
      · simp; omega
    · rw [hz, show (stepP sg a c).1 = depS a.1 c from by unfold stepP; split <;> rfl, ← dep_is hy]
  · rw [List.take_length] at ea
    subst ea
    repeat walk_at "j"
    exact q

theorem ok__law_parts {P : Program} {w : World} {K : PySem.W.Frag} {mg : Str → Option Value} {base : Heap} {f : Addr} {fd : FuncData}  (F : Fun K "_law_parts" "_law_parts" s__law_parts f fd) (hb : Blt mg)   : FnOk P w K mg base CX0 1 f fd q__law_parts (spD P_lparts) := by
  refine fnD F sc__law_parts len__law_parts (t := t__law_parts K) (fun cdv A outer s H E hr => ?_) (w__law_parts )
  have hu64 := hr.units
  have hu := hu_of hr
  exact (pss_cons (ps_set (i := 2) sc__law_parts.nd rfl (Or.inl rfl) (pe_lst (pa_cons pe_str pa_nil)))
    (pss_cons (ps_set (i := 3) sc__law_parts.nd rfl (Or.inl rfl) pe_int)
    (pss_cons (ps_for PassesOwn.never rfl (pi_str (pv 0)) (pg_name (i := 4) sc__law_parts.nd rfl (Or.inl rfl)) (pss_cons (ps_set (i := 3) sc__law_parts.nd rfl (Or.inl rfl) (pe_op op_addU (pv 3) (pe_dget2 hu (pe_disp (pps_cons pe_str pe_int (pps_cons pe_str (pe_negC (n := 1)) pps_nil)) (by rfl) (by rfl) (fun z => by cases z) (by decide)) (pv 4) pe_int ⟨rfl, rfl, rfl, rfl⟩)))
    (pss_one (ps_if (PW.pt (pw_and (pt_cmpR (op_eqD hu64) (pv 4) (pv 1) (nomark _)) (pw_and1 (pt_cmpR (op_eqD hu64) (pv 3) pe_int (nomark _))))) (pss_one (ps_expr (pe_bm PySem.F.plainAttrs_list PySem.F.slot_list_append PySem.F.type_list_append mt_append (pv 2) (pa_cons pe_str pa_nil)))) (pss_one (ps_asg (pe_op op_addU (pe_ix ix_seq (pv 2) (pe_un op_negU pe_int) (fun _ _ => rfl)) (pv 4)) (pg_sub (pv 2) (pe_un op_negU pe_int) set_list)))))))
    (pss_one (ps_ret (pv 2))))))

/-! ### _law_read -/
abbrev s__law_read : Stmt := top 36
abbrev n__law_read : List Str := ["_law_text_here", "_law_sign", "_law_word", "_law_parts_here", "_law_found", "_law_part_here"]
abbrev q__law_read : List Str := ["_law_text_here"]
theorem sc__law_read : FnScope n__law_read q__law_read (defScope s__law_read) := ⟨rfl, rfl, rfl, by decide +kernel, rfl, by decide +kernel, by decide +kernel⟩

def P_lread (n : Nat) : Pre := fun ds Ψ => ∃ (lv h : Nat) (l : List Nat) (c : Cn), ds = [.str (tx l)] ∧ Rd lv h l c ∧ l.length < n ∧ n ≤ 10000 ∧ Ψ c.D
theorem len__law_read {n : Nat} : ∀ ds Ψ, P_lread n ds Ψ → ds.length = 1 := fun ds Ψ ⟨_, _, _, _, e, _⟩ => by rw [e]; rfl
theorem zero__law_read : ∀ vs H Q E, ¬ spD (P_lread 0) vs H Q E := zeroD fun ds Ψ ⟨_, _, _, _, _, _, h, _⟩ => absurd h (Nat.not_lt_zero _)
/-- a text's parts at a sign: one alone, or more -/
def Cut (b : Bool) (l : List Nat) (c : Cn) (P : Prop) : Prop := (partsP (sgOf b) l = [l] ∧ P) ∨ ∃ (lv h : Nat) (l0 : List Nat) (a : Cn) (ms : List (List Nat × Cn)), 0 < ms.length ∧ Rd lv h l0 a ∧ (∀ m ∈ ms, Rd lv h m.1 m.2) ∧ c = ms.foldl (fun a m => .pr b a m.2) a ∧ partsP (sgOf b) l = l0 :: ms.map (·.1)
def Low1 (l : List Nat) (c : Cn) : Prop := ∃ lv h, (lv = 1 ∨ lv = 2) ∧ Rd lv h l c
def Low2 (l : List Nat) (c : Cn) : Prop := ∃ h, Rd 2 h l c
theorem cut_or {lv h : Nat} {l : List Nat} {c : Cn} (r : Rd lv h l c) : Cut false l c (Low1 l c) := by
  have low : ∀ {lv h}, (lv = 1 ∨ lv = 2) → Rd lv h l c → Cut false l c (Low1 l c) := fun {lv h} e r => .inl ⟨parts_one r ⟨.inr rfl, by
    rcases e with e | e
    · exact .inr (.inr ⟨rfl, e⟩)
    · exact .inr (.inl e)⟩, lv, h, e, r⟩
  have lvl : lv = 0 ∨ lv = 1 ∨ lv = 2 := by cases r <;> simp
  rcases lvl with rfl | e | e
  · have hp : ∃ k, h = k + 1 := by
      cases r with
      | ors g t => exact ⟨_, rfl⟩
    obtain ⟨k, rfl⟩ := hp
    obtain ⟨l0, a, ms, h1, h2, h3, h4, h5⟩ := parts_ors r
    cases ms with
    | nil =>
      have e1 := h4 rfl
      have e2 : c = a := h3
      subst e1 e2
      exact low (.inl rfl) h1
    | cons m ms => exact .inr ⟨1, k, l0, a, m :: ms, by simp, h1, h2, h3, h5⟩
  · exact low (.inl e) r
  · exact low (.inr e) r
theorem cut_and {l : List Nat} {c : Cn} (r : Low1 l c) : Cut true l c (Low2 l c) := by
  obtain ⟨lv, h, e, r⟩ := r
  rcases e with rfl | rfl
  · have hp : ∃ k, h = k + 1 := by
      cases r with
      | ands g t => exact ⟨_, rfl⟩
    obtain ⟨k, rfl⟩ := hp
    obtain ⟨l0, a, ms, h1, h2, h3, h4, h5⟩ := parts_ands r
    cases ms with
    | nil =>
      have e1 := h4 rfl
      have e2 : c = a := h3
      subst e1 e2
      exact .inl ⟨parts_one h1 ⟨.inl rfl, .inr (.inl rfl)⟩, k, h1⟩
    | cons m ms => exact .inr ⟨2, k, l0, a, m :: ms, by simp, h1, h2, h3, h5⟩
  · exact .inl ⟨parts_one r ⟨.inl rfl, .inr (.inl rfl)⟩, h, r⟩
theorem cutD_tl (x : PyData) (xs : List PyData) : cutD (x :: xs) (some 1) none = xs := by
  unfold cutD
  have h1 := HT.sIx_nat (x :: xs).length 0 1
  rw [show ((1 : Nat) : Int) = 1 from rfl] at h1
  rw [h1, HT.sIx_none, List.length_cons, Nat.min_eq_left (by omega)]
  simp
theorem parts_len {sg : Nat} : ∀ (l : List Nat) (a : Nat × List (List Nat) × List Nat), (runP sg l a).2.1.length ≤ a.2.1.length + l.length ∧ (∀ m ∈ (runP sg l a).2.1, m ∈ a.2.1 ∨ m.length + (runP sg l a).2.1.length ≤ a.2.2.length + l.length + a.2.1.length) ∧
    (runP sg l a).2.2.length + (runP sg l a).2.1.length ≤ a.2.2.length + l.length + a.2.1.length
  | [], a => ⟨Nat.le_refl _, fun m h => .inl h, Nat.le_refl _⟩
  | c :: l, a => by
    have h := parts_len (sg := sg) l (stepP sg a c)
    rw [runP_cons]
    have hs : ((stepP sg a c).2.1.length = a.2.1.length + 1 ∧ (stepP sg a c).2.2.length = 0 ∧ ∀ m ∈ (stepP sg a c).2.1, m ∈ a.2.1 ∨ m.length = a.2.2.length) ∨ ((stepP sg a c).2.1 = a.2.1 ∧ (stepP sg a c).2.2.length = a.2.2.length + 1) := by
      unfold stepP
      split
      · refine .inl ⟨by simp, rfl, fun m hm => ?_⟩
        rcases List.mem_append.mp hm with hm | hm
        · exact .inl hm
        · rw [List.mem_singleton.mp hm]; exact .inr rfl
      · exact .inr ⟨rfl, by simp⟩
    rw [List.length_cons]
    rcases hs with ⟨e1, e2, e3⟩ | ⟨e1, e2⟩
    · refine ⟨by omega, fun m hm => ?_, by omega⟩
      rcases h.2.1 m hm with hm | hm
      · rcases e3 m hm with hm | hm
        · exact .inl hm
        · exact .inr (by omega)
      · exact .inr (by omega)
    · rw [e1] at h
      refine ⟨by omega, fun m hm => ?_, by omega⟩
      rcases h.2.1 m hm with hm | hm
      · exact .inl hm
      · exact .inr (by omega)
theorem parts_less {sg : Nat} {l m : List Nat} (h : m ∈ partsP sg l) (h2 : 2 ≤ (partsP sg l).length) : m.length < l.length := by
  have := parts_len (sg := sg) l (0, [], [])
  unfold partsP at h h2
  rw [List.length_append, List.length_singleton] at h2
  simp only [List.length_nil, Nat.zero_add, Nat.add_zero] at this
  rcases List.mem_append.mp h with h | h
  · rcases this.2.1 m h with z | z
    · cases z
    · omega
  · rw [List.mem_singleton.mp h]
    omega
theorem s_bar : Str.ofString "|" = tx [sgOf false] := by decide +kernel
theorem s_amp : Str.ofString "&" = tx [sgOf true] := by decide +kernel
theorem cut_in (x : List Nat) : cutS (tx (40 :: (x ++ [41]))) (some 1) (some (-1)) = tx x := by
  have h1 := HT.sIx_nat (tx (40 :: (x ++ [41]))).length 0 1
  rw [show ((1 : Nat) : Int) = 1 from rfl] at h1
  unfold cutS
  rw [h1, tx_len, tx_cps]
  have h2 : HT.sIx (40 :: (x ++ [41])).length (40 :: (x ++ [41])).length (some (-1)) = x.length + 1 := by
    unfold HT.sIx
    simp
    try omega
  rw [h2]
  show tx _ = _
  congr 1
  simp
theorem cut_one' (c : Nat) (x : List Nat) : cutS (tx (c :: x)) (some 1) none = tx x := by
  have h1 := HT.sIx_nat (tx (c :: x)).length 0 1
  rw [show ((1 : Nat) : Int) = 1 from rfl] at h1
  unfold cutS
  rw [h1, HT.sIx_none, tx_len, tx_cps, List.length_cons, Nat.min_eq_left (by omega)]
  show tx _ = _
  congr 1
  simp

def lr_c (K : PySem.W.Frag) (n : Nat) : TS :=
  (tSeq (tAsg (tCall (spD (P_lread n)) [] E0 (tCons (tOp (rIx K) (tVar 3) (tC (.int 0))) tNil)) (gName 4))
  (tSeq (tFor (iSeq K (tSl (rSlU K) (tVar 3) (tPart (tC (.int 1))) tNoPart)) (gName 5) (tAsg (tTup (tCons (tVar 2) (tCons (tVar 4) (tCons (tCall (spD (P_lread n)) [] E0 (tCons (tVar 5) tNil)) tNil)))) (gName 4)))
  (tRet (tVar 4))))

def lr_b (K : PySem.W.Frag) (n : Nat) : TS :=
  (tSeq (tAsg (tCall (spD P_lparts) [] E0 (tCons (tVar 0) (tCons (tVar 1) tNil))) (gName 3))
  (tIfS (tTest (tOp rGtI (tCB (rLenU K) (tCons (tVar 3) tNil)) (tC (.int 1)))) (lr_c K n) tNext))

def lr_e (K : PySem.W.Frag) (n : Nat) : TS :=
  (tSeq (tIfS (tTest (tOp (rEqD K) (tOp (rIx K) (tVar 0) (tC (.int 0))) (tC (.str "!")))) (tRet (tTup (tCons (tC (.str "not")) (tCons (tCall (spD (P_lread n)) [] E0 (tCons (tSl (rSlU K) (tVar 0) (tPart (tC (.int 1))) tNoPart) tNil)) tNil)))) tNext)
  (tRet (tIf (tTest (tOp (rEqD K) (tOp (rIx K) (tVar 0) (tC (.int 0))) (tC (.str "(")))) (tCall (spD (P_lread n)) [] E0 (tCons (tSl (rSlU K) (tVar 0) (tPart (tC (.int 1))) (tPart (tUn rNegI (tC (.int 1))))) tNil)) (tTup (tCons (tC (.str "look")) (tCons (tBM K "str" rSIdx (tC (.str "abcdefgh")) (tCons (tVar 0) tNil)) tNil))))))

def t__law_read (K : PySem.W.Frag) (n : Nat) : TS :=
  (tSeq (tFor (iSeq K (tLst (tCons (tTup (tCons (tC (.str "|")) (tCons (tC (.str "or")) tNil))) (tCons (tTup (tCons (tC (.str "&")) (tCons (tC (.str "and")) tNil))) tNil)))) (gTup K 2 (gCons (gName 1) (gCons (gName 2) gNil))) (lr_b K n))
  (lr_e K n))

theorem w_lr_c (n : Nat) {K : PySem.W.Frag} {l l0 : List Nat} {b : Bool} {a c : Cn} {lv h : Nat} {ms : List (List Nat × Cn)} {w1 : Option W} (hl : l.length < n + 1) (hn : n + 1 ≤ 10000) (h0 : 0 < ms.length) (r : Rd lv h l0 a) (hs : ∀ m ∈ ms, Rd lv h m.1 m.2) (ec : c = ms.foldl (fun a m => .pr b a m.2) a) (ep : partsP (sgOf b) l = l0 :: ms.map (·.1)) {R : PyData → Unit → Prop} {N : DEnv → Unit → Prop} (q : R c.D ()) :
    WS uS (lr_c K n) () [some (.d (.str (tx l))), w1, some (.d (.str (wOf b))), some (.d (.list (partD_ l0 :: (ms.map (·.1)).map partD_))), none, none] R N := by
  have small : ∀ m ∈ l0 :: ms.map (·.1), m.length < n := fun m hm => by
    have hp : 2 ≤ (partsP (sgOf b) l).length := by rw [ep, List.length_cons, List.length_map]; omega
    rw [← ep] at hm
    have := parts_less hm hp
    omega
  unfold lr_c
  repeat walk_at "j"
  refine rd_ixL at0 ?_
  repeat walk_at "j"
  refine ⟨lv, h, l0, a, rfl, r, small _ (List.mem_cons_self ..), by omega, ?_⟩
  repeat walk_at "j"
  refine ws_for_listX (fun x : Cn => [some (.d (.str (tx l))), w1, some (.d (.str (wOf b))), some (.d (.list (partD_ l0 :: (ms.map (·.1)).map partD_))), some (.d x.D), none]) (fun i x => x = (ms.take i).foldl (fun a m => .pr b a m.2) a) a ?_
  repeat walk_at "j"
  refine rs_list ?_
  rw [cutD_tl]
  refine ⟨_, rfl, by repeat constructor, rfl, fun i d s' x hd hx => ?_, fun s' x hx => ?_⟩
  · rw [List.getElem?_map, List.getElem?_map] at hd
    cases hm : ms[i]? with
    | none => rw [hm] at hd; cases hd
    | some m =>
      rw [hm] at hd
      cases hd
      have hmm := List.mem_of_getElem? hm
      repeat walk_at "j"
      refine ⟨lv, h, m.1, m.2, rfl, hs m hmm, small _ (List.mem_cons_of_mem _ (List.mem_map.mpr ⟨m, hmm, rfl⟩)), by omega, ?_⟩
      repeat walk_at "j"
      rw [take_snoc hm, List.foldl_append, ← hx, show List.foldl (fun a (m : List Nat × Cn) => Cn.pr b a m.2) x [m] = Cn.pr b x m.2 from rfl, D_pr]
      repeat constructor
  · rw [show (ms.map (·.1)).map partD_ = ms.map (fun m => partD_ m.1) from by rw [List.map_map]; rfl, List.length_map, List.take_length] at hx
    repeat walk_at "j"
    rw [hx, ← ec]
    exact q
theorem w__law_read (n : Nat) {K : PySem.W.Frag} : ∀ ds Ψ, P_lread (n + 1) ds Ψ → WS uS (t__law_read K n) () (init n__law_read ds) (fun x _ => Ψ x) (fun _ _ => Ψ .none) := by
  rintro ds Ψ ⟨lv, h, l, c, rfl, rd, hl, hn, q⟩
  have hsm := scan_small (rd.scan 0)
  have step : ∀ (b : Bool) (P : Prop), Cut b l c P → ∀ {w1 w2 w3 w4 w5 : Option W} {N : DEnv → Unit → Prop}, w1 = some (.d (.str (tx [sgOf b]))) → w2 = some (.d (.str (wOf b))) → w4 = none → w5 = none → (P → ∀ ρ, LeE [some (.d (.str (tx l))), none, none, none, none, none] ρ → N ρ ()) → WS uS (lr_b K n) () [some (.d (.str (tx l))), w1, w2, w3, w4, w5] (fun x _ => Ψ x) N := by
    rintro b P hcut w1 w2 w3 w4 w5 N rfl rfl rfl rfl hN
    unfold lr_b
    repeat walk_at "j"
    refine ⟨l, sgOf b, rfl, rd.scan 0, by omega, by cases b <;> decide, ?_⟩
    rcases hcut with ⟨e, hP⟩ | ⟨lv', h', l0, a, ms, hm, r, hs, ec, ep⟩
    · rw [e]
      repeat walk_at "j"
      refine hN hP _ ?_
      repeat constructor
    · rw [ep]
      repeat walk_at "j"
      refine ifD (fun _ => ?_) (fun z => absurd (show ((List.map partD_ (l0 :: ms.map (·.1))).length : Int) > 1 by simp; omega) z)
      exact w_lr_c n hl hn hm r hs ec ep q
  unfold t__law_read
  repeat walk_at "j"
  refine ws_for_listX (fun _ : Unit => [some (.d (.str (tx l))), none, none, none, none, none]) (fun i _ => (i = 1 → Low1 l c) ∧ (i = 2 → Low2 l c)) () ?_
  repeat walk_at "j"
  refine ⟨by repeat constructor, ⟨(fun z => nomatch z), fun z => nomatch z⟩, fun i d s' a hd ⟨j1, j2⟩ => ?_, fun s' a ⟨j1, j2⟩ => ?_⟩
  · match i, hd with
    | 0, hd =>
      cases hd
      rw [s_bar]
      refine wg_tup2 ?_
      exact step false _ (cut_or rd) rfl rfl rfl rfl fun hP ρ le => ⟨(), ⟨fun _ => hP, fun z => nomatch z⟩, le⟩
    | 1, hd =>
      cases hd
      rw [s_amp]
      refine wg_tup2 ?_
      exact step true _ (cut_and (j1 rfl)) rfl rfl rfl rfl fun hP ρ le => ⟨(), ⟨(fun z => nomatch z), fun _ => hP⟩, le⟩
  · obtain ⟨h2, r2⟩ := j2 rfl
    clear step
    unfold lr_e
    cases r2 with
    | look h3 i hi =>
      repeat walk_at "j"
      refine rd_ixS (c := 97 + i) (by rw [tx_len]; simp) (by rw [tx_cps]; exact at0) ?_
      rw [show ({ cps := #[97 + i] } : Str) = tx [97 + i] from rfl]
      repeat walk_at "j"
      rw [s_bang]
      refine rd_eqW (tx1_ok (by omega)) (tx1_ok (by decide)) ?_
      rw [tx1_eq, decide_eq_false (by omega)]
      repeat walk_at "j"
      refine rd_ixS (c := 97 + i) (by rw [tx_len]; simp) (by rw [tx_cps]; exact at0) ?_
      rw [show ({ cps := #[97 + i] } : Str) = tx [97 + i] from rfl]
      repeat walk_at "j"
      rw [s_open]
      refine rd_eqW (tx1_ok (by omega)) (tx1_ok (by decide)) ?_
      rw [tx1_eq, decide_eq_false (by omega)]
      repeat walk_at "j"
      refine wp_sidx ?_
      repeat walk_at "j"
      obtain ⟨rest, hrest⟩ := let_idx hi
      refine ⟨tx [97 + i], i, rest, rfl, hrest, ?_⟩
      repeat walk_at "j"
      exact q
    | @nt h3 l' c' r3 =>
      rw [List.length_cons] at hl
      repeat walk_at "j"
      refine rd_ixS (c := 33) (by rw [tx_len]; simp; omega) (by rw [tx_cps]; exact at0) ?_
      rw [show ({ cps := #[33] } : Str) = tx [33] from rfl]
      repeat walk_at "j"
      refine rs_str (by rw [tx_len]; simp; omega) ?_
      rw [cut_one']
      repeat walk_at "j"
      refine ⟨2, h3, l', c', rfl, r3, by omega, by omega, ?_⟩
      repeat walk_at "j"
      exact q
    | @br h3 l' _ r3 =>
      have hl' : l'.length + 2 < n + 1 := by have h9 := hl; simp at h9; omega
      repeat walk_at "j"
      refine rd_ixS (c := 40) (by rw [tx_len]; simp; omega) (by rw [tx_cps]; exact at0) ?_
      rw [show ({ cps := #[40] } : Str) = tx [40] from rfl]
      repeat walk_at "j"
      refine rd_ixS (c := 40) (by rw [tx_len]; simp; omega) (by rw [tx_cps]; exact at0) ?_
      rw [show ({ cps := #[40] } : Str) = tx [40] from rfl]
      repeat walk_at "j"
      refine rs_str (by rw [tx_len]; simp; omega) ?_
      rw [cut_in]
      repeat walk_at "j"
      exact ⟨0, h3, l', c, rfl, r3, by omega, by omega, q⟩

theorem ok__law_read {P : Program} {w : World} {K : PySem.W.Frag} {mg : Str → Option Value} {base : Heap} {f : Addr} {fd : FuncData}  (n : Nat) (F : Fun K "_law_read" "_law_read" s__law_read f fd) (hb : Blt mg) (c__law_parts : Cal P w K mg base 1 "_law_parts" q__law_parts (spD P_lparts)) (c__law_read : Cal P w K mg base (n + 1) "_law_read" q__law_read (spD (P_lread n)))  : FnOk P w K mg base CX0 (n + 1 + 1) f fd q__law_read (spD (P_lread (n + 1))) := by
  refine fnD F sc__law_read len__law_read (t := t__law_read K n) (fun cdv A outer s H E hr => ?_) (w__law_read n )
  have hu64 := hr.units
  have hu := hu_of hr
  exact (pss_cons (ps_for PassesOwn.never rfl (pi_seq (pe_lst (pa_cons (pe_tup (pa_cons pe_str (pa_cons pe_str pa_nil))) (pa_cons (pe_tup (pa_cons pe_str (pa_cons pe_str pa_nil))) pa_nil)))) (pg_tup rfl (pgs_cons (pg_name (i := 1) sc__law_read.nd rfl (Or.inl rfl)) (pgs_cons (pg_name (i := 2) sc__law_read.nd rfl (Or.inl rfl)) pgs_nil))) (pss_cons (ps_set (i := 3) sc__law_read.nd rfl (Or.inl rfl) (pe_callC c__law_parts (hr.mono (by omega)) rfl (pa_cons (pv 0) (pa_cons (pv 1) pa_nil))))
    (pss_one (ps_if (pt_cmpR op_gtU (pe_callB call_lenU (by rfl) hb.len (by decide +kernel) (pa_cons (pv 3) pa_nil)) pe_int (nomark _)) (pss_cons (ps_set (i := 4) sc__law_read.nd rfl (Or.inl rfl) (pe_callC c__law_read (hr.mono (by omega)) rfl (pa_cons (pe_ix ix_seq (pv 3) pe_int (fun _ _ => rfl)) pa_nil)))
    (pss_cons (ps_for PassesOwn.never rfl (pi_seq (pe_slice sl_U (pv 3) (po_some pe_int) po_none)) (pg_name (i := 5) sc__law_read.nd rfl (Or.inl rfl)) (pss_one (ps_set (i := 4) sc__law_read.nd rfl (Or.inl rfl) (pe_tup (pa_cons (pv 2) (pa_cons (pv 4) (pa_cons (pe_callC c__law_read (hr.mono (by omega)) rfl (pa_cons (pv 5) pa_nil)) pa_nil)))))))
    (pss_one (ps_ret (pv 4))))) pss_nil))))
    (pss_cons (ps_if (pt_cmpR (op_eqD hu64) (pe_ix ix_seq (pv 0) pe_int (fun _ _ => rfl)) pe_str (nomark _)) (pss_one (ps_ret (pe_tup (pa_cons pe_str (pa_cons (pe_callC c__law_read (hr.mono (by omega)) rfl (pa_cons (pe_slice sl_U (pv 0) (po_some pe_int) po_none) pa_nil)) pa_nil))))) pss_nil)
    (pss_one (ps_ret (pe_ifExp (pt_cmpR (op_eqD hu64) (pe_ix ix_seq (pv 0) pe_int (fun _ _ => rfl)) pe_str (nomark _)) (pe_callC c__law_read (hr.mono (by omega)) rfl (pa_cons (pe_slice sl_U (pv 0) (po_some pe_int) (po_some (pe_un op_negU pe_int))) pa_nil)) (pe_tup (pa_cons pe_str (pa_cons (pe_bm PySem.F.plainAttrs_str PySem.F.slot_str_index PySem.F.type_str_index mt_sidx pe_str (pa_cons (pv 0) pa_nil)) pa_nil))))))))

theorem all__law_read {P : Program} {w : World} {K : PySem.W.Frag} {mg : Str → Option Value} {base : Heap}  {f__law_read : Addr} {d__law_read : FuncData} (F__law_read : Fun K "_law_read" "_law_read" s__law_read f__law_read d__law_read) (m__law_read : mg "_law_read" = some (.ref f__law_read)) (B__law_read : Binds K d__law_read q__law_read []) (hb : Blt mg) (c__law_parts : Cal P w K mg base 1 "_law_parts" q__law_parts (spD P_lparts)) : ∀ n : Nat, Cal P w K mg base (n + 1) "_law_read" q__law_read (spD (P_lread n))
  | 0 => cal_zero F__law_read.kp m__law_read B__law_read zero__law_read
  | n + 1 => by
    have c__law_read := all__law_read (P := P) (w := w) (base := base) F__law_read m__law_read B__law_read hb c__law_parts n
    have e : n + 1 + 1 = n + 1 + 1 := by omega
    rw [e]
    exact ⟨_, _, m__law_read, F__law_read.kp, B__law_read, ok__law_read n F__law_read hb c__law_parts c__law_read⟩

/-! ### _law_looked -/
abbrev s__law_looked : Stmt := top 37
abbrev n__law_looked : List Str := ["_law_part_here", "_law_one"]
abbrev q__law_looked : List Str := ["_law_part_here"]
theorem sc__law_looked : FnScope n__law_looked q__law_looked (defScope s__law_looked) := ⟨rfl, rfl, rfl, by decide +kernel, rfl, by decide +kernel, by decide +kernel⟩

def P_looked (n : Nat) : Pre := fun ds Ψ => ∃ c : Cn, ds = [c.D] ∧ c.deep < n ∧ Ψ (.int c.looks)
theorem len__law_looked {n : Nat} : ∀ ds Ψ, P_looked n ds Ψ → ds.length = 1 := fun ds Ψ ⟨_, e, _⟩ => by rw [e]; rfl
theorem zero__law_looked : ∀ vs H Q E, ¬ spD (P_looked 0) vs H Q E := zeroD fun ds Ψ ⟨_, _, h, _⟩ => absurd h (Nat.not_lt_zero _)

def t__law_looked (K : PySem.W.Frag) (n : Nat) : TS :=
  (tRet (tIf (tTest (tOp (rEqD K) (tOp (rIx K) (tVar 0) (tC (.int 0))) (tC (.str "look")))) (tC (.int 1)) (tCB (rSum K) (tCons (tLc (iSeq K (tSl (rSlU K) (tVar 0) (tPart (tC (.int 1))) tNoPart)) (gName 1) tYes (tCall (spD (P_looked n)) [] E0 (tCons (tVar 1) tNil)) [1]) tNil))))

theorem w__law_looked (n : Nat) {K : PySem.W.Frag} : ∀ ds Ψ, P_looked (n + 1) ds Ψ → WS uS (t__law_looked K n) () (init n__law_looked ds) (fun x _ => Ψ x) (fun _ _ => Ψ .none) := by
  rintro ds Ψ ⟨c, rfl, hd, q⟩
  unfold t__law_looked
  cases c with
  | look i =>
    unfold Cn.D
    repeat walk_at "j"
    exact q
  | nt c =>
    have hd : c.deep + 1 < n + 1 := hd
    unfold Cn.D
    repeat walk_at "j"
    walk_at "js"
    repeat walk_at "j"
    refine ⟨c, rfl, by omega, ?_⟩
    repeat walk_at "j"
    refine rc_sum (ns := [(c.looks : Int)]) rfl ?_
    simpa [Cn.looks] using q
  | pr b x y =>
    have hd : max x.deep y.deep + 1 < n + 1 := hd
    cases b <;> unfold Cn.D
    all_goals
      repeat walk_at "j"
      walk_at "js"
      repeat walk_at "j"
      refine ⟨x, rfl, by omega, ?_⟩
      repeat walk_at "j"
      refine ⟨y, rfl, by omega, ?_⟩
      repeat walk_at "j"
      refine rc_sum (ns := [(x.looks : Int), (y.looks : Int)]) rfl ?_
      simpa [Cn.looks] using q

theorem ok__law_looked {P : Program} {w : World} {K : PySem.W.Frag} {mg : Str → Option Value} {base : Heap} {f : Addr} {fd : FuncData}  (n : Nat) (F : Fun K "_law_looked" "_law_looked" s__law_looked f fd) (hb : Blt mg) (c__law_looked : Cal P w K mg base (n + 0) "_law_looked" q__law_looked (spD (P_looked n)))  : FnOk P w K mg base CX0 (n + 0 + 1) f fd q__law_looked (spD (P_looked (n + 1))) := by
  refine fnD F sc__law_looked len__law_looked (t := t__law_looked K n) (fun cdv A outer s H E hr => ?_) (w__law_looked n )
  have hu64 := hr.units
  have hu := hu_of hr
  exact (pss_one (ps_ret (pe_ifExp (pt_cmpR (op_eqD hu64) (pe_ix ix_seq (pv 0) pe_int (fun _ _ => rfl)) pe_str (nomark _)) pe_int (pe_callB (cr_sum rfl) (by rfl) hb.sum (by decide +kernel) (pa_cons (pe_lc (own := [("_law_one", 1)]) (by rfl) sc__law_looked.nd (pi_seq (pe_slice sl_U (pv 0) (po_some pe_int) po_none)) (blkOk_by (own := [("_law_one", 1)]) (N := n__law_looked) (sc := defScope s__law_looked) (by decide +kernel)) (fun _ _ _ _ _ => (pg_name (i := 1) sc__law_looked.nd rfl (Or.inl rfl))) (fun _ _ _ _ _ => pts_nil) (fun _ _ _ _ _ => (pe_callC c__law_looked (hr.mono (by omega)) rfl (pa_cons (pv 1) pa_nil)))) pa_nil)))))

theorem all__law_looked {P : Program} {w : World} {K : PySem.W.Frag} {mg : Str → Option Value} {base : Heap}  {f__law_looked : Addr} {d__law_looked : FuncData} (F__law_looked : Fun K "_law_looked" "_law_looked" s__law_looked f__law_looked d__law_looked) (m__law_looked : mg "_law_looked" = some (.ref f__law_looked)) (B__law_looked : Binds K d__law_looked q__law_looked []) (hb : Blt mg)  : ∀ n : Nat, Cal P w K mg base (n + 0) "_law_looked" q__law_looked (spD (P_looked n))
  | 0 => cal_zero F__law_looked.kp m__law_looked B__law_looked zero__law_looked
  | n + 1 => by
    have c__law_looked := all__law_looked (P := P) (w := w) (base := base) F__law_looked m__law_looked B__law_looked hb  n
    have e : n + 1 + 0 = n + 0 + 1 := by omega
    rw [e]
    exact ⟨_, _, m__law_looked, F__law_looked.kp, B__law_looked, ok__law_looked n F__law_looked hb c__law_looked⟩

/-! ### _law_told -/
abbrev s__law_told : Stmt := top 38
abbrev n__law_told : List Str := ["_law_text_here", "_law_e", "_law_word"]
abbrev q__law_told : List Str := ["_law_text_here"]
theorem sc__law_told : FnScope n__law_told q__law_told (defScope s__law_told) := ⟨rfl, rfl, rfl, by decide +kernel, rfl, by decide +kernel, by decide +kernel⟩

def goodC (c : Cn) : Prop := c.deep ≤ 10 ∧ c.looks ≤ 12
def P_told11 : Pre := fun ds Ψ => ∃ l : List Nat, ds = [.str (tx l)] ∧ (∀ c ∈ l, c < 128) ∧ l.length ≤ 200 ∧ (∀ k : Nat, badT l = some k → Ψ (.tuple [.str "BadText", .int (k : Int)])) ∧
  (badT l = none → ∃ (h : Nat) (c : Cn), Rd 0 h l c ∧ h ≤ 301 ∧ (¬ goodC c → Ψ (.tuple [.str "BadCondition", .int 0])) ∧ (goodC c → Ψ (.tuple [.str "told", c.D])))
theorem len__law_told : ∀ ds Ψ, P_told11 ds Ψ → ds.length = 1 := fun ds Ψ ⟨_, e, _⟩ => by rw [e]; rfl

def t__law_told (K : PySem.W.Frag) (a_JumpError : Addr) (a_BadText : Addr) (a_BadCondition : Addr) : TS :=
  (tTryAs K (.ref a_JumpError) 1 (fun W => (tRet (tTup (tCons (tC (.str "told")) (tCons (tCallS (spX (P_read11 a_BadText a_BadCondition)) (L2.WE W) (tCons (tVar 0) tNil)) tNil))))) (fun a cls d => (tSeq (tAsg (tCallE a cls d (spCls (nm11 a_BadText) (fun C => C = a_BadText ∨ C = a_BadCondition)) (tCons (tVar 1) tNil)) (gName 2))
  (tRet (tIf (tTest (tOp (rEqD K) (tVar 2) (tC (.str "BadText")))) (tTup (tCons (tVar 2) (tCons (tXf a cls d a_BadText "place" (tVar 1)) tNil))) (tTup (tCons (tVar 2) (tCons (tC (.int 0)) tNil))))))))

theorem w__law_told {K : PySem.W.Frag} {aJ aT aC : Addr} (x1 : PySem.W.exmOne K (.ref aT) (.ref aJ) = some true) (x2 : PySem.W.exmOne K (.ref aC) (.ref aJ) = some true) (k1 : PySem.W.kitOne K (.ref aC) (.ref aC) = some true) (k2 : PySem.W.kitOne K (.ref aC) (.ref aT) = some false) :
    ∀ ds Ψ, P_told11 ds Ψ → WS uS (t__law_told K aJ aT aC) () (init n__law_told ds) (fun x _ => Ψ x) (fun _ _ => Ψ .none) := by
  rintro ds Ψ ⟨l, rfl, hA, hl, hbad, q⟩
  unfold t__law_told
  refine ws_tryAs (fun E => tRet (tTup (tCons (tC (.str "told")) (tCons (tCallS (spX (P_read11 aT aC)) (fun _ => E) (tCons (tVar 0) tNil)) tNil)))) (fun C k _ => (C = aT ∧ ∃ n : Nat, k = some (n : Int) ∧ Ψ (.tuple [.str "BadText", .int (n : Int)])) ∨ (C = aC ∧ k = none ∧ Ψ (.tuple [.str "BadCondition", .int 0]))) (fun _ _ _ _ => rfl) (fun E => ?_) ?_
  · repeat walk_at "j"
    refine ⟨l, rfl, hA, hl, fun k hk => .inl ⟨rfl, k, rfl, hbad k hk⟩, fun hn => ?_⟩
    obtain ⟨h, c, rd, hh, b, g⟩ := q hn
    refine ⟨h, c, rd, hh, fun z => .inr ⟨rfl, rfl, b z⟩, fun z => ?_⟩
    repeat walk_at "j"
    exact g z
  · rintro C k s' (⟨rfl, n, rfl, q2⟩ | ⟨rfl, rfl, q2⟩)
    · refine ⟨x1, fun a dd => ?_⟩
      repeat walk_at "j"
      refine wp_callE rfl (.inl rfl) ?_
      rw [show nm11 C C = "BadText" from if_pos rfl]
      repeat walk_at "j"
      refine wp_xf rfl ?_
      repeat walk_at "j"
      exact q2
    · refine ⟨x2, fun a dd => ?_⟩
      repeat walk_at "j"
      refine wp_callE rfl (.inr rfl) ?_
      rw [show nm11 aT C = "BadCondition" from if_neg (cls_ne k2 k1)]
      repeat walk_at "j"
      exact q2

theorem ok__law_told {P : Program} {w : World} {K : PySem.W.Frag} {mg : Str → Option Value} {base : Heap} {f : Addr} {fd : FuncData} {a_JumpError : Addr} {a_BadText : Addr} {a_BadCondition : Addr} (F : Fun K "_law_told" "_law_told" s__law_told f fd) (hb : Blt mg) (hc_JumpError : mg "JumpError" = some (.ref a_JumpError)) (hc_BadText : mg "BadText" = some (.ref a_BadText)) (hc_BadCondition : mg "BadCondition" = some (.ref a_BadCondition)) (c_read : CalX P w K mg base 113 "read" q_read (spX (P_read11 a_BadText a_BadCondition))) (c__law_class : CalS P w K mg base 1 "_law_class" q__law_class (spCls (nm11 a_BadText) (fun C => C = a_BadText ∨ C = a_BadCondition))) (exm_BadText_JumpError : PySem.W.exmOne K (.ref a_BadText) (.ref a_JumpError) = some true) (exm_BadCondition_JumpError : PySem.W.exmOne K (.ref a_BadCondition) (.ref a_JumpError) = some true) (kt_BadCondition_BadCondition : PySem.W.kitOne K (.ref a_BadCondition) (.ref a_BadCondition) = some true) (kf_BadCondition_BadText : PySem.W.kitOne K (.ref a_BadCondition) (.ref a_BadText) = some false) (xf_BadText : XfC K a_BadText) (no_BadText : PySem.W.findIn K (.ref a_BadText) "place" = some none)  : FnOk P w K mg base CX0 114 f fd q__law_told (spD P_told11) := by
  refine fnD F sc__law_told len__law_told (t := t__law_told K a_JumpError a_BadText a_BadCondition) (fun cdv A outer s H E hr => ?_) (w__law_told exm_BadText_JumpError exm_BadCondition_JumpError kt_BadCondition_BadCondition kf_BadCondition_BadText)
  have hu64 := hr.units
  have hu := hu_of hr
  exact (pss_one (ps_tryAs (i := 1) rfl rfl sc__law_told.nd rfl rfl ⟨by rfl, by decide, .inl hc_JumpError⟩ (fun W pn xe tk po => (pss_one (ps_ret (pe_tup (pa_cons pe_str (pa_cons (pe_callX c_read (hr.mono (by omega)) tk rfl (pa_cons (pv 0) pa_nil)) pa_nil)))))) (fun a oe cls d pn hz hf => (pss_cons (ps_set (i := 2) sc__law_told.nd rfl (Or.inl rfl) (pe_callE c__law_class (hr.mono (by omega)) hz hf rfl (pa_cons (pv 1) pa_nil)))
    (pss_one (ps_ret (pe_ifExp (pt_cmpR (op_eqD hu64) (pv 2) pe_str (nomark _)) (pe_tup (pa_cons (pv 2) (pa_cons (pe_xf xf_BadText no_BadText hz hf (pv 1)) pa_nil))) (pe_tup (pa_cons (pv 2) (pa_cons pe_int pa_nil))))))))))

/-! ### law -/
abbrev s_law : Stmt := top 39
abbrev n_law : List Str := ["_law_script", "_law_box", "_law_odd", "_law_turn", "_law_text_here", "_law_deed", "_law_first_here", "_law_due", "_law_part_here", "_law_good"]
abbrev q_law : List Str := ["_law_script"]
theorem sc_law : FnScope n_law q_law (defScope s_law) := ⟨rfl, rfl, rfl, by decide +kernel, rfl, by decide +kernel, by decide +kernel⟩

def okS (s : Str) : Bool := decide (s.length ≤ 1000) && s.cps.toList.all fun c => decide (c < 128)
theorem okS_tx {s : Str} (h : okS s = true) : ∃ m, s = tx m ∧ m.length ≤ 1000 ∧ ∀ c ∈ m, c < 128 := by
  obtain ⟨h1, h2⟩ := and_tt h
  have h1 := of_decide_eq_true h1
  refine ⟨s.cps.toList, tx_of s, by simpa using (show s.cps.size ≤ 1000 from h1), fun c hc => of_decide_eq_true (List.all_eq_true.mp h2 c hc)⟩
def oddS : List Str := (["", "!", "a&", "(a", "a)", "()", "ab", "a b", "!!a", "(a)b", "a|&b", "&a", "((a|b)&c", "a&b|c&d"] : List Str) ++ ([Txt.mul "!" 11 ++ "a", Txt.mul "!" 10 ++ "a", Txt.join "&" (sgS "abcdefghabcd"), Txt.join "&" (sgS "abcdefghabcde")] : List Str)
theorem odd_all : oddS.all okS = true := by decide +kernel
theorem odd_at {r : Int} (h0 : 0 ≤ r) (h1 : r < 18) : ∃ m, atI (oddS.map PyData.str) r = some (.str (tx m)) ∧ m.length ≤ 1000 ∧ ∀ c ∈ m, c < 128 := by
  have hl : r.toNat < oddS.length := by
    have : oddS.length = 18 := rfl
    omega
  have e := List.getElem?_eq_getElem hl
  obtain ⟨m, e1, e2, e3⟩ := okS_tx (List.all_eq_true.mp odd_all _ (List.getElem_mem hl))
  refine ⟨m, ?_, e2, e3⟩
  have : atI (oddS.map PyData.str) ((r.toNat : Nat) : Int) = some (.str (tx m)) := atI_nat (by rw [List.getElem?_map, e, e1]; rfl)
  rw [show ((r.toNat : Nat) : Int) = r from by omega] at this
  exact this
theorem Cn.txt_short {c : Cn} (hd : c.deep ≤ 10) (hl : c.looks ≤ 12) : c.txt.length ≤ 1000 := by
  have h := c.txt_len
  have : (5 * c.deep + 1) * c.looks ≤ 51 * 12 := Nat.mul_le_mul (by omega) hl
  omega
def bnd : Nat → Nat
  | 0 => 1000
  | i + 1 => 3 * bnd i + 2
theorem bnd_le : ∀ i, i ≤ 3 → bnd i ≤ 27026
  | 0, _ => by decide
  | 1, _ => by decide
  | 2, _ => by decide
  | 3, _ => by decide
  | i + 4, h => by omega
theorem bnd_lt : ∀ i, i < 3 → bnd i ≤ 10000
  | 0, _ => by decide
  | 1, _ => by decide
  | 2, _ => by decide
  | i + 3, h => by omega
instance (c : Cn) : Decidable (goodC c) := by unfold goodC; infer_instance
theorem so_bt : PyData.strOk "BadText" = true := by decide +kernel
theorem so_bc : PyData.strOk "BadCondition" = true := by decide +kernel
theorem so_td : PyData.strOk "told" = true := by decide +kernel
theorem mulOk11 : MulOk "!" 11 := ⟨by decide +kernel, fun _ _ => by decide +kernel, fun _ _ => by decide +kernel⟩
theorem mulOk10 : MulOk "!" 10 := ⟨by decide +kernel, fun _ _ => by decide +kernel, fun _ _ => by decide +kernel⟩

def lk_law (K : PySem.W.Frag) : TS :=
  (tIfS (tOr (tNot (tB (tCall (spD (P_alike 40)) [] E0 (tCons (tCall (spD P_told11) [] E0 (tCons (tVar 4) tNil)) (tCons (tVar 7) tNil))))) (tNot (tB (tCall (spD (P_alike 40)) [] E0 (tCons (tCall (spD P_told11) [] E0 (tCons (tVar 4) tNil)) (tCons (tVar 7) tNil)))))) (tRet (tC (.bl false))) tNext)

def li_law (K : PySem.W.Frag) : TS :=
  (tSeq (tAsg (tCall (spD P_lfirst) [] E0 (tCons (tVar 4) tNil)) (gName 6))
  (tSeq (tAsg (tTup (tCons (tC (.str "BadText")) (tCons (tVar 6) tNil))) (gName 7))
  (tSeq (tIfS (tTest (tOp rIsN (tVar 6) (tC .non))) (tSeq (tAsg (tCall (spD (P_lread 201)) [] E0 (tCons (tVar 4) tNil)) (gName 8))
  (tSeq (tAsg (tAndV (tOp rLeI (tCall (spD (P_deep 201)) [] E0 (tCons (tVar 8) tNil)) (tC (.int 10))) (tOp rLeI (tCall (spD (P_looked 30)) [] E0 (tCons (tVar 8) tNil)) (tC (.int 12)))) (gName 9))
  (tAsg (tIf (tB (tVar 9)) (tTup (tCons (tC (.str "told")) (tCons (tVar 8) tNil))) (tTup (tCons (tC (.str "BadCondition")) (tCons (tC (.int 0)) tNil)))) (gName 7)))) tNext)
  (lk_law K))))

def lc_law (K : PySem.W.Frag) : TS :=
  (tSeq (tFor (iRng1 (tCons (tCall (spB P_take) [] E0 (tCons (tVar 1) (tCons (tC (.int 4)) tNil))) tNil)) (gName 5) (tAsg (tCall (spB P_spoilt) [] E0 (tCons (tVar 1) (tCons (tVar 4) tNil))) (gName 4)))
  (tIfS (tAnd (tTest (tOp rLeI (tCB (rLenU K) (tCons (tVar 4) tNil)) (tC (.int 200)))) (tTest (tOp rLeI (tBM K "str" rSCnt (tVar 4) (tCons (tC (.str "(")) tNil)) (tC (.int 30))))) (li_law K) tNext))

def lb_law (K : PySem.W.Frag) : TS :=
  (tSeq (tAsg (tOp (rIx K) (tLst (tCons (tCall (spD (P_ltext 30)) [] E0 (tCons (tCall (spB P_condition) [] E0 (tCons (tVar 1) (tCons (tC (.int 12)) tNil))) (tCons (tC (.int 0)) tNil))) (tCons (tOp (rIx K) (tVar 2) (tCall (spB P_take) [] E0 (tCons (tVar 1) (tCons (tC (.int 18)) tNil)))) tNil))) (tOp rDivI (tCall (spB P_take) [] E0 (tCons (tVar 1) (tCons (tC (.int 3)) tNil))) (tC (.int 2)))) (gName 4))
  (lc_law K))

def l0_law (K : PySem.W.Frag) : TS :=
  (tSeq (tFor (iRng1 (tCons (tC (.int 4)) tNil)) (gName 3) (lb_law K))
  (tRet (tC (.bl true))))

def u_law (K : PySem.W.Frag) : TS :=
  (tSeq (tAsg (tLst (tCons (tC (.str "")) (tCons (tC (.str "!")) (tCons (tC (.str "a&")) (tCons (tC (.str "(a")) (tCons (tC (.str "a)")) (tCons (tC (.str "()")) (tCons (tC (.str "ab")) (tCons (tC (.str "a b")) (tCons (tC (.str "!!a")) (tCons (tC (.str "(a)b")) (tCons (tC (.str "a|&b")) (tCons (tC (.str "&a")) (tCons (tC (.str "((a|b)&c")) (tCons (tC (.str "a&b|c&d")) tNil))))))))))))))) (gName 2))
  (tSeq (tAsg (tOp (rAddU K) (tVar 2) (tLst (tCons (tOp (rAddU K) (tOp rMulS (tC (.str "!")) (tC (.int 11))) (tC (.str "a"))) (tCons (tOp (rAddU K) (tOp rMulS (tC (.str "!")) (tC (.int 10))) (tC (.str "a"))) (tCons (tBM K "str" rJoinS (tC (.str "&")) (tCons (tC (.str "abcdefghabcd")) tNil)) (tCons (tBM K "str" rJoinS (tC (.str "&")) (tCons (tC (.str "abcdefghabcde")) tNil)) tNil)))))) (gName 2))
  (l0_law K)))

theorem w_lk_law {K : PySem.W.Frag} {b l : Addr} {t : List Nat} {d : PyData} {w2 w3 w5 w6 w8 w9 : Option W} (hn : nice d = true) (hd : d.depth < 40) (told : ∀ Ψ : PyData → Prop, Ψ d → P_told11 [.str (tx t)] Ψ) {N : DEnv → (bxS b l).S → Prop}
    (hN : ∀ ρ, LeE [none, some (.v (.ref b)), w2, none, none, none, none, none, none, none] ρ → N ρ ()) :
    WS (bxS b l) (lk_law K) () [none, some (.v (.ref b)), w2, w3, some (.d (.str (tx t))), w5, w6, some (.d d), w8, w9] (fun x _ => x = .bool true) N := by
  unfold lk_law
  repeat walk_at "j"
  refine told _ ?_
  repeat walk_at "j"
  refine ⟨d, rfl, hn, hd, ?_⟩
  repeat walk_at "j"
  refine told _ ?_
  repeat walk_at "j"
  refine ⟨d, rfl, hn, hd, ?_⟩
  repeat walk_at "j"
  refine hN _ ?_
  repeat constructor
theorem w_li_law {K : PySem.W.Frag} {b l : Addr} {t : List Nat} {w2 w3 w5 : Option W} (hA : ∀ c ∈ t, c < 128) (hl : t.length ≤ 200) {N : DEnv → (bxS b l).S → Prop}
    (hN : ∀ ρ, LeE [none, some (.v (.ref b)), w2, none, none, none, none, none, none, none] ρ → N ρ ()) :
    WS (bxS b l) (li_law K) () [none, some (.v (.ref b)), w2, w3, some (.d (.str (tx t))), w5, none, none, none, none] (fun x _ => x = .bool true) N := by
  unfold li_law
  repeat walk_at "j"
  refine ⟨t, rfl, hA, by omega, ?_⟩
  repeat walk_at "j"
  refine rd_isN ?_
  cases e : badT t with
  | some k =>
    rw [show firstD t = .int (k : Int) from by unfold firstD; rw [e]]
    refine ⟨_, rfl, ?_⟩
    refine ifF rfl ?_
    refine ws_next ?_
    refine w_lk_law (d := .tuple [.str "BadText", .int (k : Int)]) (by simp [nice, niceAll, so_bt]) (by simp [PyData.depth, PyData.depthAll]) (fun Ψ q => ⟨t, rfl, hA, hl, fun k' hk => by rw [e] at hk; cases hk; exact q, fun z => by rw [e] at z; cases z⟩) hN
  | none =>
    obtain ⟨h, c, rd, hh⟩ := read_of e hl
    have hdeep := rd.deep_lt
    rw [show firstD t = .none from by unfold firstD; rw [e]]
    refine ⟨_, rfl, ?_⟩
    refine ifT rfl ?_
    repeat walk_at "j"
    refine ⟨0, h, t, c, rfl, rd, by omega, by decide, ?_⟩
    repeat walk_at "j"
    refine ⟨c, rfl, by omega, ?_⟩
    repeat walk_at "j"
    have bad : ¬ goodC c → WS (bxS b l) (lk_law K) () [none, some (.v (.ref b)), w2, w3, some (.d (.str (tx t))), w5, some (.d .none), some (.d (.tuple [.str "BadCondition", .int 0])), some (.d c.D), some (.d (.bool false))] (fun x _ => x = .bool true) N := fun z =>
      w_lk_law (d := .tuple [.str "BadCondition", .int 0]) (by simp [nice, niceAll, so_bc]) (by simp [PyData.depth, PyData.depthAll]) (fun Ψ q => ⟨t, rfl, hA, hl, (fun k' hk => by rw [e] at hk; cases hk), fun _ => ⟨h, c, rd, hh, fun _ => q, fun y => absurd y z⟩⟩) hN
    refine ifD (fun h1 => ?_) (fun h1 => ?_)
    · repeat walk_at "j"
      refine ⟨c, rfl, by omega, ?_⟩
      repeat walk_at "j"
      by_cases h2 : (c.looks : Int) ≤ 12
      · rw [decide_eq_true h2]
        repeat walk_at "j"
        have hg : goodC c := ⟨by omega, by omega⟩
        have hcd := c.depth_le
        refine w_lk_law (d := .tuple [.str "told", c.D]) (by simp [nice, niceAll, so_td, c.nice]) (by rw [depth_tuple]; simp [PyData.depthAll, PyData.depth]; omega) (fun Ψ q => ⟨t, rfl, hA, hl, (fun k' hk => by rw [e] at hk; cases hk), fun _ => ⟨h, c, rd, hh, fun y => absurd hg y, fun _ => q⟩⟩) hN
      · rw [decide_eq_false h2]
        repeat walk_at "j"
        exact bad fun z => h2 (by have := z.2; omega)
    · repeat walk_at "j"
      exact bad fun z => h1 (by have := z.1; omega)
theorem w_lc_law {K : PySem.W.Frag} {b l : Addr} {t : List Nat} {w2 w3 : Option W} (hA : ∀ c ∈ t, c < 128) (hl : t.length ≤ 1000) {N : DEnv → (bxS b l).S → Prop}
    (hN : ∀ ρ, LeE [none, some (.v (.ref b)), w2, none, none, none, none, none, none, none] ρ → N ρ ()) :
    WS (bxS b l) (lc_law K) () [none, some (.v (.ref b)), w2, w3, some (.d (.str (tx t))), none, none, none, none, none] (fun x _ => x = .bool true) N := by
  unfold lc_law
  repeat walk_at "j"
  refine ws_for_rangeX (fun m : List Nat => [none, some (.v (.ref b)), w2, w3, some (.d (.str (tx m))), none, none, none, none, none]) (fun i m => (∀ c ∈ m, c < 128) ∧ m.length ≤ bnd i) t ?_
  repeat walk_at "j"
  refine ⟨4, rfl, by omega, by omega, fun r r0 r1 => ?_⟩
  repeat walk_at "j"
  refine ⟨by omega, by omega, by repeat constructor, ⟨hA, hl⟩, fun i s' m hi ⟨h1, h2⟩ => ?_, fun s' m ⟨h1, h2⟩ => ?_⟩
  · have hb := bnd_lt i (by omega)
    repeat walk_at "j"
    refine ⟨m, rfl, h1, by omega, fun m' g1 g2 => ?_⟩
    repeat walk_at "j"
    exact ⟨m', ⟨g1, show m'.length ≤ 3 * bnd i + 2 by omega⟩, by repeat constructor⟩
  · have hb := bnd_le r.toNat (by omega)
    repeat walk_at "j"
    refine rc_lenS (by rw [tx_len]; omega) ?_
    rw [tx_len]
    repeat walk_at "j"
    have fin : WS (bxS b l) tNext () [none, some (.v (.ref b)), w2, w3, some (.d (.str (tx m))), none, none, none, none, none] (fun x _ => x = .bool true) N := by
      refine ws_next (hN _ ?_)
      repeat constructor
    refine ifD (fun h3 => ?_) (fun h3 => ?_)
    · repeat walk_at "j"
      refine wp_scnt ?_
      repeat walk_at "j"
      intro i
      repeat walk_at "j"
      refine ifD (fun _ => ?_) (fun _ => ?_)
      · exact w_li_law h1 (by omega) hN
      · exact fin
    · exact ifF rfl fin
theorem w_lb_law {K : PySem.W.Frag} {b l : Addr} {w3 : Option W} {N : DEnv → (bxS b l).S → Prop}
    (hN : ∀ ρ, LeE [none, some (.v (.ref b)), some (.d (.list (oddS.map .str))), none, none, none, none, none, none, none] ρ → N ρ ()) :
    WS (bxS b l) (lb_law K) () [none, some (.v (.ref b)), some (.d (.list (oddS.map .str))), w3, none, none, none, none, none, none] (fun x _ => x = .bool true) N := by
  unfold lb_law
  repeat walk_at "j"
  refine ⟨12, rfl, by decide, by decide, fun c hl ok hd => ?_⟩
  have hk : c.looks ≤ 12 := by omega
  have hlen := Cn.txt_short hd hk
  have hsm := scan_small ((c.rd ok).2.2.scan 0)
  repeat walk_at "j"
  refine ⟨c, 0, rfl, by omega, ok, by omega, by rw [c.wth_1]; exact hlen, ?_⟩
  rw [c.wth_1]
  repeat walk_at "j"
  refine ⟨18, rfl, by omega, by omega, fun r r0 r1 => ?_⟩
  obtain ⟨m, e1, e2, e3⟩ := odd_at r0 r1
  refine rd_ixL e1 ?_
  repeat walk_at "j"
  refine ⟨3, rfl, by omega, by omega, fun k k0 k1 => ?_⟩
  repeat walk_at "j"
  have hk : k / 2 = 0 ∨ k / 2 = 1 := by omega
  rcases hk with e | e
  · rw [e]
    refine rd_ixL at0 ?_
    repeat walk_at "j"
    exact w_lc_law hsm hlen hN
  · rw [e]
    refine rd_ixL at1 ?_
    repeat walk_at "j"
    exact w_lc_law e3 e2 hN
theorem w_law {K : PySem.W.Frag} : ∀ b l, WS (bxS b l) (u_law K) () (initL b n_law) (fun x _ => x = .bool true) (fun _ _ => False) := by
  intro b l
  have main : WS (bxS b l) (l0_law K) () [none, some (.v (.ref b)), some (.d (.list (oddS.map .str))), none, none, none, none, none, none, none] (fun x _ => x = .bool true) (fun _ _ => False) := by
    unfold l0_law
    repeat walk_at "j"
    refine ws_for_rangeC (fun _ => [none, some (.v (.ref b)), some (.d (.list (oddS.map .str))), none, none, none, none, none, none, none]) ?_
    repeat walk_at "j"
    refine ⟨by decide, by decide, by repeat constructor, fun i s' hi => ?_, fun s' => ?_⟩
    · repeat walk_at "j"
      exact w_lb_law fun ρ h => h
    · repeat walk_at "j"
      rfl
  unfold u_law
  repeat walk_at "j"
  refine rd_mulS mulOk11 ?_
  repeat walk_at "j"
  refine rd_addS (by decide +kernel) ?_
  repeat walk_at "j"
  refine rd_mulS mulOk10 ?_
  repeat walk_at "j"
  refine rd_addS (by decide +kernel) ?_
  repeat walk_at "j"
  refine wp_join (by decide +kernel) (by decide +kernel) ?_
  repeat walk_at "j"
  refine wp_join (by decide +kernel) (by decide +kernel) ?_
  repeat walk_at "j"
  refine rd_addL (by decide) ?_
  repeat walk_at "j"
  exact main

theorem ok_law {P : Program} {w : World} {K : PySem.W.Frag} {mg : Str → Option Value} {base : Heap} {f : Addr} {fd : FuncData}  (F : Fun K "law" "law" s_law f fd) (hb : Blt mg) (c__law_begun : Cal P w K mg base 1 "_law_begun" q__law_begun (spBegun K)) (c__law_take : Cal P w K mg base 1 "_law_take" q__law_take (spB P_take)) (c__law_condition : Cal P w K mg base 202 "_law_condition" q__law_condition (spB P_condition)) (c__law_text : Cal P w K mg base 30 "_law_text" q__law_text (spD (P_ltext 30))) (c__law_spoilt : Cal P w K mg base 2 "_law_spoilt" q__law_spoilt (spB P_spoilt)) (c__law_first : Cal P w K mg base 1 "_law_first" q__law_first (spD P_lfirst)) (c__law_read : Cal P w K mg base 202 "_law_read" q__law_read (spD (P_lread 201))) (c__law_deep : Cal P w K mg base 201 "_law_deep" q__law_deep (spD (P_deep 201))) (c__law_looked : Cal P w K mg base 30 "_law_looked" q__law_looked (spD (P_looked 30))) (c__law_told : Cal P w K mg base 114 "_law_told" q__law_told (spD P_told11)) (c__law_alike : Cal P w K mg base 40 "_law_alike" q__law_alike (spD (P_alike 40)))  : FnOk P w K mg base CX0 203 f fd q_law (spLaw K) := by
  refine fnLaw F sc_law ⟨rfl, by decide⟩ (u := u_law K) (fun cdv A outer s H E hr => ?_) (w_law )
  have hu64 := hr.units
  have hu := hu_of hr
  exact (pss_cons (ps_set (i := 1) sc_law.nd rfl (Or.inl rfl) (pe_callC c__law_begun (hr.mono (by omega)) rfl (pa_cons (pv 0) pa_nil)))
    (pss_cons (ps_set (i := 2) sc_law.nd rfl (Or.inl rfl) (pe_lst (pa_cons pe_str (pa_cons pe_str (pa_cons pe_str (pa_cons pe_str (pa_cons pe_str (pa_cons pe_str (pa_cons pe_str (pa_cons pe_str (pa_cons pe_str (pa_cons pe_str (pa_cons pe_str (pa_cons pe_str (pa_cons pe_str (pa_cons pe_str pa_nil))))))))))))))))
    (pss_cons (ps_set (i := 2) sc_law.nd rfl (Or.inl rfl) (pe_op op_addU (pv 2) (pe_lst (pa_cons (pe_op op_addU (pe_op op_mulS pe_str pe_int) pe_str) (pa_cons (pe_op op_addU (pe_op op_mulS pe_str pe_int) pe_str) (pa_cons (pe_bm PySem.F.plainAttrs_str PySem.F.slot_str_join PySem.F.type_str_join (mt_joinS rfl) pe_str (pa_cons pe_str pa_nil)) (pa_cons (pe_bm PySem.F.plainAttrs_str PySem.F.slot_str_join PySem.F.type_str_join (mt_joinS rfl) pe_str (pa_cons pe_str pa_nil)) pa_nil)))))))
    (pss_cons (ps_for PassesOwn.never rfl (pi_range1 (by rfl) hb.range (pa_cons pe_int pa_nil)) (pg_name (i := 3) sc_law.nd rfl (Or.inl rfl)) (pss_cons (ps_set (i := 4) sc_law.nd rfl (Or.inl rfl) (pe_ix ix_seq (pe_lst (pa_cons (pe_callC c__law_text (hr.mono (by omega)) rfl (pa_cons (pe_callC c__law_condition (hr.mono (by omega)) rfl (pa_cons (pv 1) (pa_cons pe_int pa_nil))) (pa_cons pe_int pa_nil))) (pa_cons (pe_ix ix_seq (pv 2) (pe_callC c__law_take (hr.mono (by omega)) rfl (pa_cons (pv 1) (pa_cons pe_int pa_nil))) (fun _ _ => rfl)) pa_nil))) (pe_op op_divU (pe_callC c__law_take (hr.mono (by omega)) rfl (pa_cons (pv 1) (pa_cons pe_int pa_nil))) pe_int) (fun _ _ => rfl)))
    (pss_cons (ps_for PassesOwn.never rfl (pi_range1 (by rfl) hb.range (pa_cons (pe_callC c__law_take (hr.mono (by omega)) rfl (pa_cons (pv 1) (pa_cons pe_int pa_nil))) pa_nil)) (pg_name (i := 5) sc_law.nd rfl (Or.inl rfl)) (pss_one (ps_set (i := 4) sc_law.nd rfl (Or.inl rfl) (pe_callC c__law_spoilt (hr.mono (by omega)) rfl (pa_cons (pv 1) (pa_cons (pv 4) pa_nil))))))
    (pss_one (ps_if (PW.pt (pw_and (pt_cmpR op_leU (pe_callB call_lenU (by rfl) hb.len (by decide +kernel) (pa_cons (pv 4) pa_nil)) pe_int (nomark _)) (pw_and1 (pt_cmpR op_leU (pe_bm PySem.F.plainAttrs_str PySem.F.slot_str_count PySem.F.type_str_count mt_scnt (pv 4) (pa_cons pe_str pa_nil)) pe_int (nomark _))))) (pss_cons (ps_set (i := 6) sc_law.nd rfl (Or.inl rfl) (pe_callC c__law_first (hr.mono (by omega)) rfl (pa_cons (pv 4) pa_nil)))
    (pss_cons (ps_set (i := 7) sc_law.nd rfl (Or.inl rfl) (pe_tup (pa_cons pe_str (pa_cons (pv 6) pa_nil))))
    (pss_cons (ps_if (pt_cmpR op_isNU (pv 6) pe_non (nomark _)) (pss_cons (ps_set (i := 8) sc_law.nd rfl (Or.inl rfl) (pe_callC c__law_read (hr.mono (by omega)) rfl (pa_cons (pv 4) pa_nil)))
    (pss_cons (ps_set (i := 9) sc_law.nd rfl (Or.inl rfl) (pe_and (pe_cmpR op_leU (pe_callC c__law_deep (hr.mono (by omega)) rfl (pa_cons (pv 8) pa_nil)) pe_int (nomark _)) (pe_one (pe_cmpR op_leU (pe_callC c__law_looked (hr.mono (by omega)) rfl (pa_cons (pv 8) pa_nil)) pe_int (nomark _)))))
    (pss_one (ps_set (i := 7) sc_law.nd rfl (Or.inl rfl) (pe_ifExp (pt_val (pv 9)) (pe_tup (pa_cons pe_str (pa_cons (pv 8) pa_nil))) (pe_tup (pa_cons pe_str (pa_cons pe_int pa_nil)))))))) pss_nil)
    (pss_one (ps_if (PW.pt (pw_or (pt_not (pt_val (pe_callC c__law_alike (hr.mono (by omega)) rfl (pa_cons (pe_callC c__law_told (hr.mono (by omega)) rfl (pa_cons (pv 4) pa_nil)) (pa_cons (pv 7) pa_nil))))) (pw_or1 (pt_not (pt_val (pe_callC c__law_alike (hr.mono (by omega)) rfl (pa_cons (pe_callC c__law_told (hr.mono (by omega)) rfl (pa_cons (pv 4) pa_nil)) (pa_cons (pv 7) pa_nil)))))))) (pss_one (ps_ret pe_bl)) pss_nil))))) pss_nil)))))
    (pss_one (ps_ret pe_bl))))))

theorem ktab_sizes {K : PySem.W.Frag} {w : World} {a : Addr} {es : Array DictEntry} {n : Nat} {t1 t2 t3 t4 : Tok} (h1 : K.lookup a = some ⟨.type "dict", none, .dict es n, #[]⟩) (h2 : PySem.W.KeysLit w.params es.toList) (h0 : (a == sysModules) = false)
    (y1 : PySem.W.nsIn K a wLook = some (some (.int 2 t1))) (y2 : PySem.W.nsIn K a wNot = some (some (.int 2 t2))) (y3 : PySem.W.nsIn K a wAnd = some (some (.int 3 t3))) (y4 : PySem.W.nsIn K a wOr = some (some (.int 3 t4)))
    (y5 : PySem.W.nsIn K a wXor = some none) (y6 : PySem.W.nsIn K a wNOT = some none) (y7 : PySem.W.nsIn K a wNil = some none) : KTab K w a sizeW W7 := by
  have x5 : sizeW wXor = none := by decide +kernel
  have x6 : sizeW wNOT = none := by decide +kernel
  have x7 : sizeW wNil = none := by decide +kernel
  refine ⟨⟨h0, es, n, h1, h2⟩, fun s i hs e => ?_, fun s hs e => ?_⟩
  · rcases hs with rfl | rfl | rfl | rfl | rfl | rfl | rfl
    · rw [size_look] at e; cases e; exact ⟨_, y1⟩
    · rw [size_not] at e; cases e; exact ⟨_, y2⟩
    · rw [size_and] at e; cases e; exact ⟨_, y3⟩
    · rw [size_or] at e; cases e; exact ⟨_, y4⟩
    · rw [x5] at e; cases e
    · rw [x6] at e; cases e
    · rw [x7] at e; cases e
  · rcases hs with rfl | rfl | rfl | rfl | rfl | rfl | rfl
    · rw [size_look] at e; cases e
    · rw [size_not] at e; cases e
    · rw [size_and] at e; cases e
    · rw [size_or] at e; cases e
    · exact y5
    · exact y6
    · exact y7

theorem all_mk {l : PySem.W.OpenLaw} {w : World} {K : PySem.W.Frag} {h : Heap} {mg : Str → Option Value} {fa f0 f1 f2 f3 f4 f5 f6 f7 f8 f9 f10 f11 f12 f13 f14 f15 f16 f17 f18 f19 f20 f21 f22 f23 f24 : Addr} (X : K.In h) (G : h.Ns mainGlobals mg) (hfa : mg "law" = some (.ref fa))
    {od0 an0 : Option Addr} {sl0 : Array (Option Value)} {oc0 kV0 dc0 pm0 cd0 ct0 : Value} {od1 an1 : Option Addr} {sl1 : Array (Option Value)} {oc1 kV1 dc1 pm1 cd1 ct1 : Value} {od2 an2 : Option Addr} {sl2 : Array (Option Value)} {oc2 kV2 dc2 pm2 cd2 ct2 : Value} {od3 an3 : Option Addr} {sl3 : Array (Option Value)} {oc3 kV3 dc3 pm3 cd3 ct3 : Value} {od4 an4 : Option Addr} {sl4 : Array (Option Value)} {oc4 kV4 dc4 pm4 cd4 ct4 : Value} {od5 an5 : Option Addr} {sl5 : Array (Option Value)} {oc5 kV5 dc5 pm5 cd5 ct5 : Value} {od6 an6 : Option Addr} {sl6 : Array (Option Value)} {oc6 kV6 dc6 pm6 cd6 ct6 : Value} {od7 an7 : Option Addr} {sl7 : Array (Option Value)} {oc7 kV7 dc7 pm7 cd7 ct7 : Value} {od8 an8 : Option Addr} {sl8 : Array (Option Value)} {oc8 kV8 dc8 pm8 cd8 ct8 : Value} {od9 an9 : Option Addr} {sl9 : Array (Option Value)} {oc9 kV9 dc9 pm9 cd9 ct9 : Value} {od10 an10 : Option Addr} {sl10 : Array (Option Value)} {oc10 kV10 dc10 pm10 cd10 ct10 : Value} {od11 an11 : Option Addr} {sl11 : Array (Option Value)} {oc11 kV11 dc11 pm11 cd11 ct11 : Value} {od12 an12 : Option Addr} {sl12 : Array (Option Value)} {oc12 kV12 dc12 pm12 cd12 ct12 : Value} {od13 an13 : Option Addr} {sl13 : Array (Option Value)} {oc13 kV13 dc13 pm13 cd13 ct13 : Value} {od14 an14 : Option Addr} {sl14 : Array (Option Value)} {oc14 kV14 dc14 pm14 cd14 ct14 : Value} {od15 an15 : Option Addr} {sl15 : Array (Option Value)} {oc15 kV15 dc15 pm15 cd15 ct15 : Value} {od16 an16 : Option Addr} {sl16 : Array (Option Value)} {oc16 kV16 dc16 pm16 cd16 ct16 : Value} {od17 an17 : Option Addr} {sl17 : Array (Option Value)} {oc17 kV17 dc17 pm17 cd17 ct17 : Value} {od18 an18 : Option Addr} {sl18 : Array (Option Value)} {oc18 kV18 dc18 pm18 cd18 ct18 : Value} {od19 an19 : Option Addr} {sl19 : Array (Option Value)} {oc19 kV19 dc19 pm19 cd19 ct19 : Value} {od20 an20 : Option Addr} {sl20 : Array (Option Value)} {oc20 kV20 dc20 pm20 cd20 ct20 : Value} {od21 an21 : Option Addr} {sl21 : Array (Option Value)} {oc21 kV21 dc21 pm21 cd21 ct21 : Value} {od22 an22 : Option Addr} {sl22 : Array (Option Value)} {oc22 kV22 dc22 pm22 cd22 ct22 : Value} {od23 an23 : Option Addr} {sl23 : Array (Option Value)} {oc23 kV23 dc23 pm23 cd23 ct23 : Value} {od24 an24 : Option Addr} {sl24 : Array (Option Value)} {oc24 kV24 dc24 pm24 cd24 ct24 : Value} {tk_MOST_WITHIN : Tok} {a_SIZES : Addr} {es_S : Array DictEntry} {n_S : Nat} {ts1 ts2 ts3 ts4 : Tok} {tk_THINGS : Tok} {tk_MOST_LOOKS : Tok} {a_BadCondition : Addr} {tk_LETTERS : Tok} {a_BadText : Addr} {nm_BadText qn_BadText : Str} {N_BadText : Addr} {bs_BadText bm_BadText : List Value} {sn_BadText : List Str} {sb_BadText : List Value} {ab_BadText : Bool} {co_BadText : Option Bool} {dd_BadText : Option Addr} {k0_BadText k1_BadText k2_BadText k3_BadText k5_BadText : Option Value} {fi_BadText : Addr} {iod_BadText ian_BadText : Option Addr} {isl_BadText : Array (Option Value)} {ioc_BadText ikV_BadText idc_BadText ipm_BadText icd_BadText ict_BadText : Value} {a_Reader : Addr} {a_BadEnd : Addr} {a_BadTurns : Addr} {a_BadWorths : Addr} {a_TooMany : Addr} {a_BadChances : Addr} {a_BadCode : Addr} {a_JumpError : Addr}
    (a0 : PySem.W.nsIn K mainGlobals "is_condition" = some (some (.ref f0)))
    (l0 : K.lookup f0 = some ⟨oc0, od0, .func (PySem.W.fnOf "is_condition" "is_condition" (defArgs s_is_condition) (defBody s_is_condition) (defScope s_is_condition) .none kV0 dc0 pm0 an0 cd0 ct0), sl0⟩)
    (c0 : PySem.W.codeIn K cd0 "is_condition" = true)
    (k0 : PySem.W.keepIn K (.ref f0) = true)
    (a1 : PySem.W.nsIn K mainGlobals "looks_in" = some (some (.ref f1)))
    (l1 : K.lookup f1 = some ⟨oc1, od1, .func (PySem.W.fnOf "looks_in" "looks_in" (defArgs s_looks_in) (defBody s_looks_in) (defScope s_looks_in) .none kV1 dc1 pm1 an1 cd1 ct1), sl1⟩)
    (c1 : PySem.W.codeIn K cd1 "looks_in" = true)
    (k1 : PySem.W.keepIn K (.ref f1) = true)
    (a2 : PySem.W.nsIn K mainGlobals "need_condition" = some (some (.ref f2)))
    (l2 : K.lookup f2 = some ⟨oc2, od2, .func (PySem.W.fnOf "need_condition" "need_condition" (defArgs s_need_condition) (defBody s_need_condition) (defScope s_need_condition) .none kV2 dc2 pm2 an2 cd2 ct2), sl2⟩)
    (c2 : PySem.W.codeIn K cd2 "need_condition" = true)
    (k2 : PySem.W.keepIn K (.ref f2) = true)
    (a3 : PySem.W.nsIn K mainGlobals "need_text" = some (some (.ref f3)))
    (l3 : K.lookup f3 = some ⟨oc3, od3, .func (PySem.W.fnOf "need_text" "need_text" (defArgs s_need_text) (defBody s_need_text) (defScope s_need_text) .none kV3 dc3 pm3 an3 cd3 ct3), sl3⟩)
    (c3 : PySem.W.codeIn K cd3 "need_text" = true)
    (k3 : PySem.W.keepIn K (.ref f3) = true)
    (a8 : PySem.W.nsIn K mainGlobals "read" = some (some (.ref f8)))
    (l8 : K.lookup f8 = some ⟨oc8, od8, .func (PySem.W.fnOf "read" "read" (defArgs s_read) (defBody s_read) (defScope s_read) .none kV8 dc8 pm8 an8 cd8 ct8), sl8⟩)
    (c8 : PySem.W.codeIn K cd8 "read" = true)
    (k8 : PySem.W.keepIn K (.ref f8) = true)
    (a9 : PySem.W.nsIn K mainGlobals "_law_begun" = some (some (.ref f9)))
    (l9 : K.lookup f9 = some ⟨oc9, od9, .func (PySem.W.fnOf "_law_begun" "_law_begun" (defArgs s__law_begun) (defBody s__law_begun) (defScope s__law_begun) .none kV9 dc9 pm9 an9 cd9 ct9), sl9⟩)
    (c9 : PySem.W.codeIn K cd9 "_law_begun" = true)
    (k9 : PySem.W.keepIn K (.ref f9) = true)
    (a10 : PySem.W.nsIn K mainGlobals "_law_take" = some (some (.ref f10)))
    (l10 : K.lookup f10 = some ⟨oc10, od10, .func (PySem.W.fnOf "_law_take" "_law_take" (defArgs s__law_take) (defBody s__law_take) (defScope s__law_take) .none kV10 dc10 pm10 an10 cd10 ct10), sl10⟩)
    (c10 : PySem.W.codeIn K cd10 "_law_take" = true)
    (k10 : PySem.W.keepIn K (.ref f10) = true)
    (a11 : PySem.W.nsIn K mainGlobals "_law_alike" = some (some (.ref f11)))
    (l11 : K.lookup f11 = some ⟨oc11, od11, .func (PySem.W.fnOf "_law_alike" "_law_alike" (defArgs s__law_alike) (defBody s__law_alike) (defScope s__law_alike) .none kV11 dc11 pm11 an11 cd11 ct11), sl11⟩)
    (c11 : PySem.W.codeIn K cd11 "_law_alike" = true)
    (k11 : PySem.W.keepIn K (.ref f11) = true)
    (a12 : PySem.W.nsIn K mainGlobals "_law_class" = some (some (.ref f12)))
    (l12 : K.lookup f12 = some ⟨oc12, od12, .func (PySem.W.fnOf "_law_class" "_law_class" (defArgs s__law_class) (defBody s__law_class) (defScope s__law_class) .none kV12 dc12 pm12 an12 cd12 ct12), sl12⟩)
    (c12 : PySem.W.codeIn K cd12 "_law_class" = true)
    (k12 : PySem.W.keepIn K (.ref f12) = true)
    (a13 : PySem.W.nsIn K mainGlobals "_law_part" = some (some (.ref f13)))
    (l13 : K.lookup f13 = some ⟨oc13, od13, .func (PySem.W.fnOf "_law_part" "_law_part" (defArgs s__law_part) (defBody s__law_part) (defScope s__law_part) .none kV13 dc13 pm13 an13 cd13 ct13), sl13⟩)
    (c13 : PySem.W.codeIn K cd13 "_law_part" = true)
    (k13 : PySem.W.keepIn K (.ref f13) = true)
    (a14 : PySem.W.nsIn K mainGlobals "_law_bare" = some (some (.ref f14)))
    (l14 : K.lookup f14 = some ⟨oc14, od14, .func (PySem.W.fnOf "_law_bare" "_law_bare" (defArgs s__law_bare) (defBody s__law_bare) (defScope s__law_bare) .none kV14 dc14 pm14 an14 cd14 ct14), sl14⟩)
    (c14 : PySem.W.codeIn K cd14 "_law_bare" = true)
    (k14 : PySem.W.keepIn K (.ref f14) = true)
    (a15 : PySem.W.nsIn K mainGlobals "_law_deep" = some (some (.ref f15)))
    (l15 : K.lookup f15 = some ⟨oc15, od15, .func (PySem.W.fnOf "_law_deep" "_law_deep" (defArgs s__law_deep) (defBody s__law_deep) (defScope s__law_deep) .none kV15 dc15 pm15 an15 cd15 ct15), sl15⟩)
    (c15 : PySem.W.codeIn K cd15 "_law_deep" = true)
    (k15 : PySem.W.keepIn K (.ref f15) = true)
    (a16 : PySem.W.nsIn K mainGlobals "_law_condition" = some (some (.ref f16)))
    (l16 : K.lookup f16 = some ⟨oc16, od16, .func (PySem.W.fnOf "_law_condition" "_law_condition" (defArgs s__law_condition) (defBody s__law_condition) (defScope s__law_condition) .none kV16 dc16 pm16 an16 cd16 ct16), sl16⟩)
    (c16 : PySem.W.codeIn K cd16 "_law_condition" = true)
    (k16 : PySem.W.keepIn K (.ref f16) = true)
    (a17 : PySem.W.nsIn K mainGlobals "_law_text" = some (some (.ref f17)))
    (l17 : K.lookup f17 = some ⟨oc17, od17, .func (PySem.W.fnOf "_law_text" "_law_text" (defArgs s__law_text) (defBody s__law_text) (defScope s__law_text) .none kV17 dc17 pm17 an17 cd17 ct17), sl17⟩)
    (c17 : PySem.W.codeIn K cd17 "_law_text" = true)
    (k17 : PySem.W.keepIn K (.ref f17) = true)
    (a18 : PySem.W.nsIn K mainGlobals "_law_spoilt" = some (some (.ref f18)))
    (l18 : K.lookup f18 = some ⟨oc18, od18, .func (PySem.W.fnOf "_law_spoilt" "_law_spoilt" (defArgs s__law_spoilt) (defBody s__law_spoilt) (defScope s__law_spoilt) .none kV18 dc18 pm18 an18 cd18 ct18), sl18⟩)
    (c18 : PySem.W.codeIn K cd18 "_law_spoilt" = true)
    (k18 : PySem.W.keepIn K (.ref f18) = true)
    (a19 : PySem.W.nsIn K mainGlobals "_law_first" = some (some (.ref f19)))
    (l19 : K.lookup f19 = some ⟨oc19, od19, .func (PySem.W.fnOf "_law_first" "_law_first" (defArgs s__law_first) (defBody s__law_first) (defScope s__law_first) .none kV19 dc19 pm19 an19 cd19 ct19), sl19⟩)
    (c19 : PySem.W.codeIn K cd19 "_law_first" = true)
    (k19 : PySem.W.keepIn K (.ref f19) = true)
    (a20 : PySem.W.nsIn K mainGlobals "_law_parts" = some (some (.ref f20)))
    (l20 : K.lookup f20 = some ⟨oc20, od20, .func (PySem.W.fnOf "_law_parts" "_law_parts" (defArgs s__law_parts) (defBody s__law_parts) (defScope s__law_parts) .none kV20 dc20 pm20 an20 cd20 ct20), sl20⟩)
    (c20 : PySem.W.codeIn K cd20 "_law_parts" = true)
    (k20 : PySem.W.keepIn K (.ref f20) = true)
    (a21 : PySem.W.nsIn K mainGlobals "_law_read" = some (some (.ref f21)))
    (l21 : K.lookup f21 = some ⟨oc21, od21, .func (PySem.W.fnOf "_law_read" "_law_read" (defArgs s__law_read) (defBody s__law_read) (defScope s__law_read) .none kV21 dc21 pm21 an21 cd21 ct21), sl21⟩)
    (c21 : PySem.W.codeIn K cd21 "_law_read" = true)
    (k21 : PySem.W.keepIn K (.ref f21) = true)
    (a22 : PySem.W.nsIn K mainGlobals "_law_looked" = some (some (.ref f22)))
    (l22 : K.lookup f22 = some ⟨oc22, od22, .func (PySem.W.fnOf "_law_looked" "_law_looked" (defArgs s__law_looked) (defBody s__law_looked) (defScope s__law_looked) .none kV22 dc22 pm22 an22 cd22 ct22), sl22⟩)
    (c22 : PySem.W.codeIn K cd22 "_law_looked" = true)
    (k22 : PySem.W.keepIn K (.ref f22) = true)
    (a23 : PySem.W.nsIn K mainGlobals "_law_told" = some (some (.ref f23)))
    (l23 : K.lookup f23 = some ⟨oc23, od23, .func (PySem.W.fnOf "_law_told" "_law_told" (defArgs s__law_told) (defBody s__law_told) (defScope s__law_told) .none kV23 dc23 pm23 an23 cd23 ct23), sl23⟩)
    (c23 : PySem.W.codeIn K cd23 "_law_told" = true)
    (k23 : PySem.W.keepIn K (.ref f23) = true)
    (a24 : PySem.W.nsIn K mainGlobals "law" = some (some (.ref f24)))
    (l24 : K.lookup f24 = some ⟨oc24, od24, .func (PySem.W.fnOf "law" "law" (defArgs s_law) (defBody s_law) (defScope s_law) .none kV24 dc24 pm24 an24 cd24 ct24), sl24⟩)
    (c24 : PySem.W.codeIn K cd24 "law" = true)
    (k24 : PySem.W.keepIn K (.ref f24) = true)
    (g_MOST_WITHIN : PySem.W.nsIn K mainGlobals "MOST_WITHIN" = some (some (.int 10 tk_MOST_WITHIN)))
    (g_SIZES : PySem.W.nsIn K mainGlobals "SIZES" = some (some (.ref a_SIZES)))
    (y1 : K.lookup a_SIZES = some ⟨.type "dict", none, .dict es_S n_S, #[]⟩)
    (y2 : PySem.W.KeysLit w.params es_S.toList)
    (y3 : PySem.W.nsIn K a_SIZES "look" = some (some (.int 2 ts1)))
    (y4 : PySem.W.nsIn K a_SIZES "not" = some (some (.int 2 ts2)))
    (y5 : PySem.W.nsIn K a_SIZES "and" = some (some (.int 3 ts3)))
    (y6 : PySem.W.nsIn K a_SIZES "or" = some (some (.int 3 ts4)))
    (y7 : PySem.W.nsIn K a_SIZES "xor" = some none)
    (y8 : PySem.W.nsIn K a_SIZES "Not" = some none)
    (y9 : PySem.W.nsIn K a_SIZES "" = some none)
    (y10 : (a_SIZES == sysModules) = false)
    (g_THINGS : PySem.W.nsIn K mainGlobals "THINGS" = some (some (.int 8 tk_THINGS)))
    (g_MOST_LOOKS : PySem.W.nsIn K mainGlobals "MOST_LOOKS" = some (some (.int 12 tk_MOST_LOOKS)))
    (g_BadCondition : PySem.W.nsIn K mainGlobals "BadCondition" = some (some (.ref a_BadCondition)))
    (xq_BadCondition : PySem.W.excIn K a_BadCondition [.type "ValueError", .type "Exception", .type "BaseException", .type "object"] "ValueError.__new__" = true)
    (xk_BadCondition : PySem.W.keepIn K (.ref a_BadCondition) = true)
    (xb_BadCondition : PySem.W.subIn K (.ref a_BadCondition) (.type "BaseException") = some true)
    (xt_BadCondition : PySem.W.typeIn K (.ref a_BadCondition) = some (.type "type"))
    (xeg_BadCondition : PySem.W.findIn K (.ref a_BadCondition) "__getattribute__" = some (some (.builtin "BaseException.__getattribute__")))
    (xek_BadCondition : PySem.W.findIn K (.ref a_BadCondition) "__getattr__" = some none)
    (xes_BadCondition : PySem.W.subIn K (.ref a_BadCondition) (.type "BaseException") = some true)
    (xed_BadCondition : PySem.W.hasDictIn K a_BadCondition = true)
    (xea_BadCondition : PySem.W.findIn K (.ref a_BadCondition) "__class__" = some (some (.builtin "object.__class__")))
    (xen_BadCondition : PySem.W.specialIn K (.builtin "object.__class__") "__get__" = some (some (.builtin "getset_descriptor.__get__")))
    (xet_BadCondition : PySem.W.takesIn K (.builtin "object.__class__") = some true)
    (xem_BadCondition : PySem.W.mroIn K a_BadCondition (.type "object") = some true)
    (g_LETTERS : PySem.W.nsIn K mainGlobals "LETTERS" = some (some (.str "abcdefgh" tk_LETTERS)))
    (g_BadText : PySem.W.nsIn K mainGlobals "BadText" = some (some (.ref a_BadText)))
    (xl_BadText : K.lookup a_BadText = some (excClassObj nm_BadText qn_BadText a_BadText N_BadText bs_BadText bm_BadText true sn_BadText sb_BadText ab_BadText co_BadText dd_BadText k0_BadText k1_BadText k2_BadText k3_BadText k5_BadText "ValueError.__new__"))
    (xr_BadText : PySem.HandSPX.refsVE bm_BadText = true)
    (xs_BadText : PySem.W.findIn K (.ref a_BadText) "__setattr__" = some (some (.builtin "object.__setattr__")))
    (xb_BadText : PySem.W.subIn K (.ref a_BadText) (.type "BaseException") = some true)
    (xt_BadText : PySem.W.typeIn K (.ref a_BadText) = some (.type "type"))
    (xk_BadText : PySem.W.keepIn K (.ref a_BadText) = true)
    (no_BadText : PySem.W.findIn K (.ref a_BadText) "place" = some none)
    (xi_BadText : PySem.W.findIn K (.ref a_BadText) "__init__" = some (some (.ref fi_BadText)))
    (xj_BadText : PySem.W.typeIn K (.ref fi_BadText) = some (.type "function"))
    (il_BadText : K.lookup fi_BadText = some ⟨ioc_BadText, iod_BadText, .func (PySem.W.fnOf "__init__" "BadText.__init__" (defArgs si_BadText) (defBody si_BadText) (defScope si_BadText) .none ikV_BadText idc_BadText ipm_BadText ian_BadText icd_BadText ict_BadText), isl_BadText⟩)
    (ic_BadText : PySem.W.codeIn K icd_BadText "BadText.__init__" = true)
    (ik_BadText : PySem.W.keepIn K (.ref fi_BadText) = true)
    (xfga_BadText : PySem.W.findIn K (.ref a_BadText) "__getattribute__" = some (some (.builtin "BaseException.__getattribute__")))
    (xfgg_BadText : PySem.W.findIn K (.ref a_BadText) "__getattr__" = some none)
    (xfex_BadText : PySem.W.subIn K (.ref a_BadText) (.type "BaseException") = some true)
    (xfhd_BadText : PySem.W.hasDictIn K a_BadText = true)
    (xeg_BadText : PySem.W.findIn K (.ref a_BadText) "__getattribute__" = some (some (.builtin "BaseException.__getattribute__")))
    (xek_BadText : PySem.W.findIn K (.ref a_BadText) "__getattr__" = some none)
    (xes_BadText : PySem.W.subIn K (.ref a_BadText) (.type "BaseException") = some true)
    (xed_BadText : PySem.W.hasDictIn K a_BadText = true)
    (xea_BadText : PySem.W.findIn K (.ref a_BadText) "__class__" = some (some (.builtin "object.__class__")))
    (xen_BadText : PySem.W.specialIn K (.builtin "object.__class__") "__get__" = some (some (.builtin "getset_descriptor.__get__")))
    (xet_BadText : PySem.W.takesIn K (.builtin "object.__class__") = some true)
    (xem_BadText : PySem.W.mroIn K a_BadText (.type "object") = some true)
    (g_Reader : PySem.W.nsIn K mainGlobals "Reader" = some (some (.ref a_Reader)))
    (g_BadEnd : PySem.W.nsIn K mainGlobals "BadEnd" = some (some (.ref a_BadEnd)))
    (g_BadTurns : PySem.W.nsIn K mainGlobals "BadTurns" = some (some (.ref a_BadTurns)))
    (g_BadWorths : PySem.W.nsIn K mainGlobals "BadWorths" = some (some (.ref a_BadWorths)))
    (g_TooMany : PySem.W.nsIn K mainGlobals "TooMany" = some (some (.ref a_TooMany)))
    (g_BadChances : PySem.W.nsIn K mainGlobals "BadChances" = some (some (.ref a_BadChances)))
    (g_BadCode : PySem.W.nsIn K mainGlobals "BadCode" = some (some (.ref a_BadCode)))
    (g_JumpError : PySem.W.nsIn K mainGlobals "JumpError" = some (some (.ref a_JumpError)))
    (jr_JumpError : PySem.W.readsIn K a_JumpError (.type "type") = true)
    (jg_JumpError : PySem.W.specialIn K (.ref a_JumpError) "__getattribute__" = some (some (.builtin "type.__getattribute__")))
    (ja_JumpError : PySem.W.findCls K (.ref a_JumpError) (.type "type") "__init__" = some (.val (.builtin "ValueError.__init__")))
    (a4 : PySem.W.findIn K (.ref a_Reader) "__init__" = some (some (.ref f4)))
    (l4 : K.lookup f4 = some ⟨oc4, od4, .func (PySem.W.fnOf "__init__" "Reader.__init__" (defArgs s_Reader___init__) (defBody s_Reader___init__) (defScope s_Reader___init__) .none kV4 dc4 pm4 an4 cd4 ct4), sl4⟩)
    (c4 : PySem.W.codeIn K cd4 "Reader.__init__" = true)
    (k4 : PySem.W.keepIn K (.ref f4) = true)
    (n4 : PySem.W.isFn K (.ref f4) = true)
    (a5 : PySem.W.findIn K (.ref a_Reader) "is_next" = some (some (.ref f5)))
    (l5 : K.lookup f5 = some ⟨oc5, od5, .func (PySem.W.fnOf "is_next" "Reader.is_next" (defArgs s_Reader_is_next) (defBody s_Reader_is_next) (defScope s_Reader_is_next) .none kV5 dc5 pm5 an5 cd5 ct5), sl5⟩)
    (c5 : PySem.W.codeIn K cd5 "Reader.is_next" = true)
    (k5 : PySem.W.keepIn K (.ref f5) = true)
    (n5 : PySem.W.isFn K (.ref f5) = true)
    (a6 : PySem.W.findIn K (.ref a_Reader) "single" = some (some (.ref f6)))
    (l6 : K.lookup f6 = some ⟨oc6, od6, .func (PySem.W.fnOf "single" "Reader.single" (defArgs s_Reader_single) (defBody s_Reader_single) (defScope s_Reader_single) .none kV6 dc6 pm6 an6 cd6 ct6), sl6⟩)
    (c6 : PySem.W.codeIn K cd6 "Reader.single" = true)
    (k6 : PySem.W.keepIn K (.ref f6) = true)
    (n6 : PySem.W.isFn K (.ref f6) = true)
    (a7 : PySem.W.findIn K (.ref a_Reader) "several" = some (some (.ref f7)))
    (l7 : K.lookup f7 = some ⟨oc7, od7, .func (PySem.W.fnOf "several" "Reader.several" (defArgs s_Reader_several) (defBody s_Reader_several) (defScope s_Reader_several) .none kV7 dc7 pm7 an7 cd7 ct7), sl7⟩)
    (c7 : PySem.W.codeIn K cd7 "Reader.several" = true)
    (k7 : PySem.W.keepIn K (.ref f7) = true)
    (n7 : PySem.W.isFn K (.ref f7) = true)
    (cg_Reader : PySem.W.plainGet K a_Reader Str.empty = true)
    (ch_Reader : PySem.W.hasDictIn K a_Reader = true)
    (co_Reader : PySem.W.plainOver K a_Reader = true)
    (cs_Reader : PySem.W.findIn K (.ref a_Reader) "__setattr__" = some (some (.builtin "object.__setattr__")))
    (ct_Reader : PySem.W.findIn K (.ref a_Reader) "text" = some none)
    (cp_Reader : PySem.W.findIn K (.ref a_Reader) "place" = some none)
    (cm_Reader : PySem.W.makesIn K a_Reader = true)
    (ck_Reader : PySem.W.keepIn K (.ref a_Reader) = true)
    (z_range : PySem.W.nsIn K mainGlobals "range" = some none)
    (z_isinstance : PySem.W.nsIn K mainGlobals "isinstance" = some none)
    (z_len : PySem.W.nsIn K mainGlobals "len" = some none)
    (z_int : PySem.W.nsIn K mainGlobals "int" = some none)
    (z_bool : PySem.W.nsIn K mainGlobals "bool" = some none)
    (z_str : PySem.W.nsIn K mainGlobals "str" = some none)
    (z_tuple : PySem.W.nsIn K mainGlobals "tuple" = some none)
    (z_list : PySem.W.nsIn K mainGlobals "list" = some none)
    (z_sum : PySem.W.nsIn K mainGlobals "sum" = some none)
    (z_max : PySem.W.nsIn K mainGlobals "max" = some none)
    (z_min : PySem.W.nsIn K mainGlobals "min" = some none)
    (z_all : PySem.W.nsIn K mainGlobals "all" = some none)
    (z_sorted : PySem.W.nsIn K mainGlobals "sorted" = some none)
    (z_enumerate : PySem.W.nsIn K mainGlobals "enumerate" = some none)
    (z_ValueError : PySem.W.nsIn K mainGlobals "ValueError" = some none)
    (exm_BadCondition_JumpError : PySem.W.exmOne K (.ref a_BadCondition) (.ref a_JumpError) = some true)
    (kf_BadCondition_BadChances : PySem.W.kitOne K (.ref a_BadCondition) (.ref a_BadChances) = some false)
    (kf_BadCondition_BadCode : PySem.W.kitOne K (.ref a_BadCondition) (.ref a_BadCode) = some false)
    (kf_BadCondition_BadEnd : PySem.W.kitOne K (.ref a_BadCondition) (.ref a_BadEnd) = some false)
    (kf_BadCondition_BadText : PySem.W.kitOne K (.ref a_BadCondition) (.ref a_BadText) = some false)
    (kf_BadCondition_BadTurns : PySem.W.kitOne K (.ref a_BadCondition) (.ref a_BadTurns) = some false)
    (kf_BadCondition_BadWorths : PySem.W.kitOne K (.ref a_BadCondition) (.ref a_BadWorths) = some false)
    (kf_BadCondition_TooMany : PySem.W.kitOne K (.ref a_BadCondition) (.ref a_TooMany) = some false)
    (kt_BadCondition_BadCondition : PySem.W.kitOne K (.ref a_BadCondition) (.ref a_BadCondition) = some true)
    (kv_BadCondition : PySem.W.kitOne K (.ref a_BadCondition) (.type "ValueError") = some true)
    (exm_BadText_JumpError : PySem.W.exmOne K (.ref a_BadText) (.ref a_JumpError) = some true)
    (kf_BadText_BadChances : PySem.W.kitOne K (.ref a_BadText) (.ref a_BadChances) = some false)
    (kf_BadText_BadCode : PySem.W.kitOne K (.ref a_BadText) (.ref a_BadCode) = some false)
    (kf_BadText_BadCondition : PySem.W.kitOne K (.ref a_BadText) (.ref a_BadCondition) = some false)
    (kf_BadText_BadEnd : PySem.W.kitOne K (.ref a_BadText) (.ref a_BadEnd) = some false)
    (kf_BadText_BadTurns : PySem.W.kitOne K (.ref a_BadText) (.ref a_BadTurns) = some false)
    (kf_BadText_BadWorths : PySem.W.kitOne K (.ref a_BadText) (.ref a_BadWorths) = some false)
    (kf_BadText_TooMany : PySem.W.kitOne K (.ref a_BadText) (.ref a_TooMany) = some false)
    (kt_BadText_BadText : PySem.W.kitOne K (.ref a_BadText) (.ref a_BadText) = some true)
    (kv_BadText : PySem.W.kitOne K (.ref a_BadText) (.type "ValueError") = some true) :
    ∃ fd : FuncData, (∀ (s : Shared) (v : Value), BindsTo s fd ⟨[v], []⟩ [("_law_script", v)]) ∧ ∀ base : Heap, K.In base → base.Ns mainGlobals mg → FnOk l.prog w K mg base CX0 203 fa fd q_law (spLaw K) := by
  have hb : Blt mg := ⟨PySem.W.mg_none_of X G z_range, PySem.W.mg_none_of X G z_isinstance, PySem.W.mg_none_of X G z_len, PySem.W.mg_none_of X G z_int, PySem.W.mg_none_of X G z_bool, PySem.W.mg_none_of X G z_str, PySem.W.mg_none_of X G z_tuple, PySem.W.mg_none_of X G z_list, PySem.W.mg_none_of X G z_sum, PySem.W.mg_none_of X G z_max, PySem.W.mg_none_of X G z_min, PySem.W.mg_none_of X G z_all, PySem.W.mg_none_of X G z_sorted, PySem.W.mg_none_of X G z_enumerate, PySem.W.mg_none_of X G z_ValueError⟩
  have hc_MOST_WITHIN : ∃ t, mg "MOST_WITHIN" = some (.int 10 t) := ⟨_, PySem.W.mg_of X G g_MOST_WITHIN⟩
  have hc_SIZES : mg "SIZES" = some (.ref a_SIZES) := PySem.W.mg_of X G g_SIZES
  have kt : KTab K w a_SIZES sizeW W7 := ktab_sizes y1 y2 y10 y3 y4 y5 y6 y7 y8 y9
  have hc_THINGS : ∃ t, mg "THINGS" = some (.int 8 t) := ⟨_, PySem.W.mg_of X G g_THINGS⟩
  have hc_MOST_LOOKS : ∃ t, mg "MOST_LOOKS" = some (.int 12 t) := ⟨_, PySem.W.mg_of X G g_MOST_LOOKS⟩
  have hc_BadCondition : mg "BadCondition" = some (.ref a_BadCondition) := PySem.W.mg_of X G g_BadCondition
  have ho_BadCondition : ExcO K a_BadCondition := ⟨xq_BadCondition, xk_BadCondition, xb_BadCondition, xt_BadCondition⟩
  have exc_BadCondition : ExcC K a_BadCondition := ⟨xeg_BadCondition, xek_BadCondition, xes_BadCondition, xed_BadCondition, xea_BadCondition, xen_BadCondition, xet_BadCondition, xem_BadCondition⟩
  have hc_LETTERS : ∃ t, mg "LETTERS" = some (.str "abcdefgh" t) := ⟨_, PySem.W.mg_of X G g_LETTERS⟩
  have hc_BadText : mg "BadText" = some (.ref a_BadText) := PySem.W.mg_of X G g_BadText
  have oex_BadText : OexC K a_BadText := ⟨⟨nm_BadText, qn_BadText, N_BadText, bs_BadText, bm_BadText, sn_BadText, sb_BadText, ab_BadText, co_BadText, dd_BadText, k0_BadText, k1_BadText, k2_BadText, k3_BadText, k5_BadText, xl_BadText, xr_BadText⟩, xs_BadText, xb_BadText, xt_BadText, xk_BadText⟩
  have xf_BadText : XfC K a_BadText := ⟨xfga_BadText, xfgg_BadText, xfex_BadText, xfhd_BadText⟩
  have exc_BadText : ExcC K a_BadText := ⟨xeg_BadText, xek_BadText, xes_BadText, xed_BadText, xea_BadText, xen_BadText, xet_BadText, xem_BadText⟩
  have hc_Reader : mg "Reader" = some (.ref a_Reader) := PySem.W.mg_of X G g_Reader
  have hc_BadEnd : mg "BadEnd" = some (.ref a_BadEnd) := PySem.W.mg_of X G g_BadEnd
  have hc_BadTurns : mg "BadTurns" = some (.ref a_BadTurns) := PySem.W.mg_of X G g_BadTurns
  have hc_BadWorths : mg "BadWorths" = some (.ref a_BadWorths) := PySem.W.mg_of X G g_BadWorths
  have hc_TooMany : mg "TooMany" = some (.ref a_TooMany) := PySem.W.mg_of X G g_TooMany
  have hc_BadChances : mg "BadChances" = some (.ref a_BadChances) := PySem.W.mg_of X G g_BadChances
  have hc_BadCode : mg "BadCode" = some (.ref a_BadCode) := PySem.W.mg_of X G g_BadCode
  have hc_JumpError : mg "JumpError" = some (.ref a_JumpError) := PySem.W.mg_of X G g_JumpError
  have ji_JumpError : JIni K a_JumpError := ⟨jr_JumpError, jg_JumpError, ja_JumpError⟩
  have cl_Reader : Cls K a_Reader := ⟨cg_Reader, ch_Reader, co_Reader, cs_Reader⟩
  have n1_Reader : NoAttr K a_Reader "text" := ct_Reader
  have n2_Reader : NoAttr K a_Reader "place" := cp_Reader
  have e := hfa.symm.trans (PySem.W.mg_of X G a24)
  cases e
  have F_is_condition := fun_mk (st := s_is_condition) l0 c0 k0
  have B_is_condition := F_is_condition.binds (ps := q_is_condition) fun _ _ _ _ _ _ us hl => match us, hl with | [_, _], _ => rfl
  have m_is_condition := PySem.W.mg_of X G a0
  have F_looks_in := fun_mk (st := s_looks_in) l1 c1 k1
  have B_looks_in := F_looks_in.binds (ps := q_looks_in) fun _ _ _ _ _ _ us hl => match us, hl with | [_], _ => rfl
  have m_looks_in := PySem.W.mg_of X G a1
  have F_need_condition := fun_mk (st := s_need_condition) l2 c2 k2
  have B_need_condition := F_need_condition.binds (ps := q_need_condition) fun _ _ _ _ _ _ us hl => match us, hl with | [_], _ => rfl
  have m_need_condition := PySem.W.mg_of X G a2
  have F_need_text := fun_mk (st := s_need_text) l3 c3 k3
  have B_need_text := F_need_text.binds (ps := q_need_text) fun _ _ _ _ _ _ us hl => match us, hl with | [_], _ => rfl
  have m_need_text := PySem.W.mg_of X G a3
  have F_Reader___init__ := fun_mk (st := s_Reader___init__) l4 c4 k4
  have B_Reader___init__ := F_Reader___init__.binds (ps := q_Reader___init__) fun _ _ _ _ _ _ us hl => match us, hl with | [_, _], _ => rfl
  have m_Reader___init__ : Meth K a_Reader "__init__" f4 := ⟨a4, n4, k4⟩
  have F_Reader_is_next := fun_mk (st := s_Reader_is_next) l5 c5 k5
  have B_Reader_is_next := F_Reader_is_next.binds (ps := q_Reader_is_next) fun _ _ _ _ _ _ us hl => match us, hl with | [_, _], _ => rfl
  have m_Reader_is_next : Meth K a_Reader "is_next" f5 := ⟨a5, n5, k5⟩
  have F_Reader_single := fun_mk (st := s_Reader_single) l6 c6 k6
  have B_Reader_single := F_Reader_single.binds (ps := q_Reader_single) fun _ _ _ _ _ _ us hl => match us, hl with | [_], _ => rfl
  have m_Reader_single : Meth K a_Reader "single" f6 := ⟨a6, n6, k6⟩
  have F_Reader_several := fun_mk (st := s_Reader_several) l7 c7 k7
  have B_Reader_several := F_Reader_several.binds (ps := q_Reader_several) fun _ _ _ _ _ _ us hl => match us, hl with | [_, _], _ => rfl
  have m_Reader_several : Meth K a_Reader "several" f7 := ⟨a7, n7, k7⟩
  have F_read := fun_mk (st := s_read) l8 c8 k8
  have B_read := F_read.binds (ps := q_read) fun _ _ _ _ _ _ us hl => match us, hl with | [_], _ => rfl
  have m_read := PySem.W.mg_of X G a8
  have F__law_begun := fun_mk (st := s__law_begun) l9 c9 k9
  have B__law_begun := F__law_begun.binds (ps := q__law_begun) fun _ _ _ _ _ _ us hl => match us, hl with | [_], _ => rfl
  have m__law_begun := PySem.W.mg_of X G a9
  have F__law_take := fun_mk (st := s__law_take) l10 c10 k10
  have B__law_take := F__law_take.binds (ps := q__law_take) fun _ _ _ _ _ _ us hl => match us, hl with | [_, _], _ => rfl
  have m__law_take := PySem.W.mg_of X G a10
  have F__law_alike := fun_mk (st := s__law_alike) l11 c11 k11
  have B__law_alike := F__law_alike.binds (ps := q__law_alike) fun _ _ _ _ _ _ us hl => match us, hl with | [_, _], _ => rfl
  have m__law_alike := PySem.W.mg_of X G a11
  have F__law_class := fun_mk (st := s__law_class) l12 c12 k12
  have B__law_class := F__law_class.binds (ps := q__law_class) fun _ _ _ _ _ _ us hl => match us, hl with | [_], _ => rfl
  have m__law_class := PySem.W.mg_of X G a12
  have F__law_part := fun_mk (st := s__law_part) l13 c13 k13
  have B__law_part := F__law_part.binds (ps := q__law_part) fun _ _ _ _ _ _ us hl => match us, hl with | [_, _, _], _ => rfl
  have m__law_part := PySem.W.mg_of X G a13
  have F__law_bare := fun_mk (st := s__law_bare) l14 c14 k14
  have B__law_bare := F__law_bare.binds (ps := q__law_bare) fun _ _ _ _ _ _ us hl => match us, hl with | [_, _, _], _ => rfl
  have m__law_bare := PySem.W.mg_of X G a14
  have F__law_deep := fun_mk (st := s__law_deep) l15 c15 k15
  have B__law_deep := F__law_deep.binds (ps := q__law_deep) fun _ _ _ _ _ _ us hl => match us, hl with | [_], _ => rfl
  have m__law_deep := PySem.W.mg_of X G a15
  have F__law_condition := fun_mk (st := s__law_condition) l16 c16 k16
  have B__law_condition := F__law_condition.binds (ps := q__law_condition) fun _ _ _ _ _ _ us hl => match us, hl with | [_, _], _ => rfl
  have m__law_condition := PySem.W.mg_of X G a16
  have F__law_text := fun_mk (st := s__law_text) l17 c17 k17
  have B__law_text := F__law_text.binds (ps := q__law_text) fun _ _ _ _ _ _ us hl => match us, hl with | [_, _], _ => rfl
  have m__law_text := PySem.W.mg_of X G a17
  have F__law_spoilt := fun_mk (st := s__law_spoilt) l18 c18 k18
  have B__law_spoilt := F__law_spoilt.binds (ps := q__law_spoilt) fun _ _ _ _ _ _ us hl => match us, hl with | [_, _], _ => rfl
  have m__law_spoilt := PySem.W.mg_of X G a18
  have F__law_first := fun_mk (st := s__law_first) l19 c19 k19
  have B__law_first := F__law_first.binds (ps := q__law_first) fun _ _ _ _ _ _ us hl => match us, hl with | [_], _ => rfl
  have m__law_first := PySem.W.mg_of X G a19
  have F__law_parts := fun_mk (st := s__law_parts) l20 c20 k20
  have B__law_parts := F__law_parts.binds (ps := q__law_parts) fun _ _ _ _ _ _ us hl => match us, hl with | [_, _], _ => rfl
  have m__law_parts := PySem.W.mg_of X G a20
  have F__law_read := fun_mk (st := s__law_read) l21 c21 k21
  have B__law_read := F__law_read.binds (ps := q__law_read) fun _ _ _ _ _ _ us hl => match us, hl with | [_], _ => rfl
  have m__law_read := PySem.W.mg_of X G a21
  have F__law_looked := fun_mk (st := s__law_looked) l22 c22 k22
  have B__law_looked := F__law_looked.binds (ps := q__law_looked) fun _ _ _ _ _ _ us hl => match us, hl with | [_], _ => rfl
  have m__law_looked := PySem.W.mg_of X G a22
  have F__law_told := fun_mk (st := s__law_told) l23 c23 k23
  have B__law_told := F__law_told.binds (ps := q__law_told) fun _ _ _ _ _ _ us hl => match us, hl with | [_], _ => rfl
  have m__law_told := PySem.W.mg_of X G a23
  have F_law := fun_mk (st := s_law) l24 c24 k24
  refine ⟨PySem.W.fnOf "law" "law" (defArgs s_law) (defBody s_law) (defScope s_law) .none kV24 dc24 pm24 an24 cd24 ct24, fun s v => .of_eq rfl, fun base _ _ => ?_⟩
  have hp_BadText : ExcP l.prog w K mg base a_BadText := ⟨oex_BadText, no_BadText, fi_BadText, _, xi_BadText, xj_BadText, (fun_mk (st := si_BadText) il_BadText ic_BadText ik_BadText).binds (ps := ["self", "place"]) fun _ _ _ _ _ _ us hl => (match us, hl with | [_, _], _ => rfl), ok_init_BadText (fun_mk (st := si_BadText) il_BadText ic_BadText ik_BadText) ji_JumpError hc_JumpError⟩
  have all := all_is_condition (P := l.prog) (w := w) (base := base) F_is_condition m_is_condition B_is_condition hb hc_MOST_WITHIN hc_SIZES hc_THINGS kt 13
  have c_is_condition := all
  have all := all_looks_in (P := l.prog) (w := w) (base := base) F_looks_in m_looks_in B_looks_in hb  30
  have c_looks_in := all
  have c_need_condition : CalX l.prog w K mg base 31 "need_condition" q_need_condition (spX (P_needcX a_BadCondition)) := ⟨_, _, m_need_condition, F_need_condition.kp, B_need_condition, ok_need_condition (P := l.prog) (w := w) (base := base) F_need_condition hb hc_MOST_LOOKS hc_BadCondition c_is_condition c_looks_in ho_BadCondition⟩
  have c_need_text : CalX l.prog w K mg base 3 "need_text" q_need_text (spX (P_needtX a_BadText)) := ⟨_, _, m_need_text, F_need_text.kp, B_need_text, ok_need_text (P := l.prog) (w := w) (base := base) F_need_text hb hc_LETTERS hc_BadText hp_BadText⟩
  have c_Reader___init__ : CalMk l.prog w K mg base 1 a_Reader q_Reader___init__ (spRini a_Reader) := ⟨_, _, ⟨cm_Reader, a4, n4, ck_Reader⟩, B_Reader___init__, ok_Reader___init__ (P := l.prog) (w := w) (base := base) F_Reader___init__ hb hc_Reader cl_Reader n1_Reader n2_Reader⟩
  have c_Reader_is_next : CalM l.prog w K mg base 1 a_Reader "is_next" q_Reader_is_next (spRd a_Reader P_is_next) := ⟨_, _, m_Reader_is_next, B_Reader_is_next, ok_Reader_is_next (P := l.prog) (w := w) (base := base) F_Reader_is_next hb hc_Reader cl_Reader n1_Reader n2_Reader⟩
  have all := all_Reader_single (P := l.prog) (w := w) (base := base) F_Reader_single m_Reader_single B_Reader_single F_Reader_several m_Reader_several B_Reader_several hb hc_Reader hc_LETTERS cl_Reader n1_Reader n2_Reader c_Reader_is_next 305
  obtain ⟨c_Reader_single, c_Reader_several⟩ := all
  have c_Reader_single : CalM l.prog w K mg base 112 a_Reader "single" q_Reader_single (spRd a_Reader (P_single 305)) := c_Reader_single.cal (by decide)
  have c_Reader_several : CalM l.prog w K mg base 112 a_Reader "several" q_Reader_several (spRd a_Reader (P_several 305)) := c_Reader_several.cal (by decide)
  have c_read : CalX l.prog w K mg base 113 "read" q_read (spX (P_read11 a_BadText a_BadCondition)) := ⟨_, _, m_read, F_read.kp, B_read, ok_read (P := l.prog) (w := w) (base := base) F_read hb hc_BadText hc_Reader hc_BadCondition cl_Reader n1_Reader n2_Reader c_need_text c_Reader___init__ c_Reader_several c_need_condition⟩
  have c__law_begun : Cal l.prog w K mg base 1 "_law_begun" q__law_begun (spBegun K) := ⟨_, _, m__law_begun, F__law_begun.kp, B__law_begun, ok__law_begun (P := l.prog) (w := w) (base := base) F__law_begun hb ⟩
  have c__law_take : Cal l.prog w K mg base 1 "_law_take" q__law_take (spB P_take) := ⟨_, _, m__law_take, F__law_take.kp, B__law_take, ok__law_take (P := l.prog) (w := w) (base := base) F__law_take hb ⟩
  have all := all__law_alike (P := l.prog) (w := w) (base := base) F__law_alike m__law_alike B__law_alike hb  40
  have c__law_alike := all
  have c__law_class : CalS l.prog w K mg base 1 "_law_class" q__law_class (spCls (nm11 a_BadText) (fun C => C = a_BadText ∨ C = a_BadCondition)) := ⟨_, _, m__law_class, F__law_class.kp, B__law_class, ok__law_class (P := l.prog) (w := w) (base := base) F__law_class hb hc_BadEnd hc_BadTurns hc_BadWorths hc_BadCondition hc_BadText hc_TooMany hc_BadChances hc_BadCode kf_BadText_BadCondition kf_BadText_BadWorths kf_BadText_BadTurns kf_BadText_BadEnd kf_BadText_BadCode kf_BadText_BadChances kf_BadText_TooMany kt_BadText_BadText kv_BadText exc_BadText kt_BadCondition_BadCondition kf_BadCondition_BadWorths kf_BadCondition_BadTurns kf_BadCondition_BadEnd kf_BadCondition_BadCode kf_BadCondition_BadChances kf_BadCondition_TooMany kf_BadCondition_BadText kv_BadCondition exc_BadCondition⟩
  have all := all__law_part (P := l.prog) (w := w) (base := base) F__law_part m__law_part B__law_part F__law_bare m__law_bare B__law_bare hb c__law_take 24
  obtain ⟨c__law_part, c__law_bare⟩ := all
  have all := all__law_deep (P := l.prog) (w := w) (base := base) F__law_deep m__law_deep B__law_deep hb  201
  have c__law_deep := all
  have c__law_condition : Cal l.prog w K mg base 202 "_law_condition" q__law_condition (spB P_condition) := ⟨_, _, m__law_condition, F__law_condition.kp, B__law_condition, ok__law_condition (P := l.prog) (w := w) (base := base) F__law_condition hb c__law_take c__law_part c__law_deep⟩
  have all := all__law_text (P := l.prog) (w := w) (base := base) F__law_text m__law_text B__law_text hb  30
  have c__law_text := all
  have c__law_spoilt : Cal l.prog w K mg base 2 "_law_spoilt" q__law_spoilt (spB P_spoilt) := ⟨_, _, m__law_spoilt, F__law_spoilt.kp, B__law_spoilt, ok__law_spoilt (P := l.prog) (w := w) (base := base) F__law_spoilt hb c__law_take⟩
  have c__law_first : Cal l.prog w K mg base 1 "_law_first" q__law_first (spD P_lfirst) := ⟨_, _, m__law_first, F__law_first.kp, B__law_first, ok__law_first (P := l.prog) (w := w) (base := base) F__law_first hb ⟩
  have c__law_parts : Cal l.prog w K mg base 1 "_law_parts" q__law_parts (spD P_lparts) := ⟨_, _, m__law_parts, F__law_parts.kp, B__law_parts, ok__law_parts (P := l.prog) (w := w) (base := base) F__law_parts hb ⟩
  have all := all__law_read (P := l.prog) (w := w) (base := base) F__law_read m__law_read B__law_read hb c__law_parts 201
  have c__law_read := all
  have all := all__law_looked (P := l.prog) (w := w) (base := base) F__law_looked m__law_looked B__law_looked hb  30
  have c__law_looked := all
  have c__law_told : Cal l.prog w K mg base 114 "_law_told" q__law_told (spD P_told11) := ⟨_, _, m__law_told, F__law_told.kp, B__law_told, ok__law_told (P := l.prog) (w := w) (base := base) F__law_told hb hc_JumpError hc_BadText hc_BadCondition c_read c__law_class exm_BadText_JumpError exm_BadCondition_JumpError kt_BadCondition_BadCondition kf_BadCondition_BadText xf_BadText no_BadText⟩
  exact ok_law (P := l.prog) (w := w) (base := base) F_law hb c__law_begun c__law_take c__law_condition c__law_text c__law_spoilt c__law_first c__law_read c__law_deep c__law_looked c__law_told c__law_alike

theorem walk {l : PySem.W.OpenLaw} {q : Program} {loose : List Str} {XP : (Str → Option Value) → Heap → Prop} {YP : World → Heap → Prop} {d : DefRec} {K : Params → PySem.W.Frag} (hn : l.most = some 63) (hdf : d.params.defaults = [])
    (hY : ∀ (w : World) (h : Heap), YP w h → (K w.params).In h)
    (F : ∀ (w : World) (mg : Str → Option Value) (fa : Addr) (h : Heap), (K w.params).In h → h.Ns mainGlobals mg → mg d.name = some (.ref fa) →
      ∃ fd : FuncData, (∀ (s : Shared) (u : Value), BindsTo s fd ⟨[u], []⟩ [("_law_script", u)]) ∧ ∀ base : Heap, (K w.params).In base → base.Ns mainGlobals mg → FnOk l.prog w (K w.params) mg base CX0 203 fa fd ["_law_script"] (spLaw (K w.params))) :
    PySem.W.WalkO q loose XP YP l.row.toRowW d [] (fun f vs => PySem.call f vs) :=
  L2.walk_of (n := 63) (k := 203) (x := "_law_script") (CX := fun _ => CX0) (sp := fun w => spLaw (K w.params)) hn (by decide) hdf ⟨rfl, by decide, by decide⟩ hY F (fun _ _ a ns hl _ hS => ⟨a, ns, rfl, hS, hl, fun _ => rfl⟩) fun _ _ _ _ _ z => z

end J
open PySem PySem.W PyProof.Rows
set_option maxRecDepth 100000 in
set_option maxHeartbeats 0 in
theorem PySem.Challenge.cw_jumpsay_k11_texts_refused_holds : PySem.Challenge.rw_jumpsay_k11_texts_refused.Holds := by
  w_on; o_law; k_head; (case hw => w_witness2)
  k_fill
  refine J.walk (l := PySem.Challenge.rw_jumpsay_k11_texts_refused) rfl rfl (fun w h Y => PySem.W.kIn_of Y) ?F
  case F =>
    intro w mg fa h KX G hmg
    refine' J.all_mk KX G hmg ?a0 ?l0 ?c0 ?k0 ?a1 ?l1 ?c1 ?k1 ?a2 ?l2 ?c2 ?k2 ?a3 ?l3 ?c3 ?k3 ?a8 ?l8 ?c8 ?k8 ?a9 ?l9 ?c9 ?k9 ?a10 ?l10 ?c10 ?k10 ?a11 ?l11 ?c11 ?k11 ?a12 ?l12 ?c12 ?k12 ?a13 ?l13 ?c13 ?k13 ?a14 ?l14 ?c14 ?k14 ?a15 ?l15 ?c15 ?k15 ?a16 ?l16 ?c16 ?k16 ?a17 ?l17 ?c17 ?k17 ?a18 ?l18 ?c18 ?k18 ?a19 ?l19 ?c19 ?k19 ?a20 ?l20 ?c20 ?k20 ?a21 ?l21 ?c21 ?k21 ?a22 ?l22 ?c22 ?k22 ?a23 ?l23 ?c23 ?k23 ?a24 ?l24 ?c24 ?k24 ?g_MOST_WITHIN ?g_SIZES ?y1 ?y2 ?y3 ?y4 ?y5 ?y6 ?y7 ?y8 ?y9 ?y10 ?g_THINGS ?g_MOST_LOOKS ?g_BadCondition ?xq_BadCondition ?xk_BadCondition ?xb_BadCondition ?xt_BadCondition ?xeg_BadCondition ?xek_BadCondition ?xes_BadCondition ?xed_BadCondition ?xea_BadCondition ?xen_BadCondition ?xet_BadCondition ?xem_BadCondition ?g_LETTERS ?g_BadText ?xl_BadText ?xr_BadText ?xs_BadText ?xb_BadText ?xt_BadText ?xk_BadText ?no_BadText ?xi_BadText ?xj_BadText ?il_BadText ?ic_BadText ?ik_BadText ?xfga_BadText ?xfgg_BadText ?xfex_BadText ?xfhd_BadText ?xeg_BadText ?xek_BadText ?xes_BadText ?xed_BadText ?xea_BadText ?xen_BadText ?xet_BadText ?xem_BadText ?g_Reader ?g_BadEnd ?g_BadTurns ?g_BadWorths ?g_TooMany ?g_BadChances ?g_BadCode ?g_JumpError ?jr_JumpError ?jg_JumpError ?ja_JumpError ?a4 ?l4 ?c4 ?k4 ?n4 ?a5 ?l5 ?c5 ?k5 ?n5 ?a6 ?l6 ?c6 ?k6 ?n6 ?a7 ?l7 ?c7 ?k7 ?n7 ?cg_Reader ?ch_Reader ?co_Reader ?cs_Reader ?ct_Reader ?cp_Reader ?cm_Reader ?ck_Reader ?z_range ?z_isinstance ?z_len ?z_int ?z_bool ?z_str ?z_tuple ?z_list ?z_sum ?z_max ?z_min ?z_all ?z_sorted ?z_enumerate ?z_ValueError ?exm_BadCondition_JumpError ?kf_BadCondition_BadChances ?kf_BadCondition_BadCode ?kf_BadCondition_BadEnd ?kf_BadCondition_BadText ?kf_BadCondition_BadTurns ?kf_BadCondition_BadWorths ?kf_BadCondition_TooMany ?kt_BadCondition_BadCondition ?kv_BadCondition ?exm_BadText_JumpError ?kf_BadText_BadChances ?kf_BadText_BadCode ?kf_BadText_BadCondition ?kf_BadText_BadEnd ?kf_BadText_BadTurns ?kf_BadText_BadWorths ?kf_BadText_TooMany ?kt_BadText_BadText ?kv_BadText
    (case a0 => k_is)
    (case l0 => k_is)
    (case c0 => k_is)
    (case k0 => k_is)
    (case a1 => k_is)
    (case l1 => k_is)
    (case c1 => k_is)
    (case k1 => k_is)
    (case a2 => k_is)
    (case l2 => k_is)
    (case c2 => k_is)
    (case k2 => k_is)
    (case a3 => k_is)
    (case l3 => k_is)
    (case c3 => k_is)
    (case k3 => k_is)
    (case a8 => k_is)
    (case l8 => k_is)
    (case c8 => k_is)
    (case k8 => k_is)
    (case a9 => k_is)
    (case l9 => k_is)
    (case c9 => k_is)
    (case k9 => k_is)
    (case a10 => k_is)
    (case l10 => k_is)
    (case c10 => k_is)
    (case k10 => k_is)
    (case a11 => k_is)
    (case l11 => k_is)
    (case c11 => k_is)
    (case k11 => k_is)
    (case a12 => k_is)
    (case l12 => k_is)
    (case c12 => k_is)
    (case k12 => k_is)
    (case a13 => k_is)
    (case l13 => k_is)
    (case c13 => k_is)
    (case k13 => k_is)
    (case a14 => k_is)
    (case l14 => k_is)
    (case c14 => k_is)
    (case k14 => k_is)
    (case a15 => k_is)
    (case l15 => k_is)
    (case c15 => k_is)
    (case k15 => k_is)
    (case a16 => k_is)
    (case l16 => k_is)
    (case c16 => k_is)
    (case k16 => k_is)
    (case a17 => k_is)
    (case l17 => k_is)
    (case c17 => k_is)
    (case k17 => k_is)
    (case a18 => k_is)
    (case l18 => k_is)
    (case c18 => k_is)
    (case k18 => k_is)
    (case a19 => k_is)
    (case l19 => k_is)
    (case c19 => k_is)
    (case k19 => k_is)
    (case a20 => k_is)
    (case l20 => k_is)
    (case c20 => k_is)
    (case k20 => k_is)
    (case a21 => k_is)
    (case l21 => k_is)
    (case c21 => k_is)
    (case k21 => k_is)
    (case a22 => k_is)
    (case l22 => k_is)
    (case c22 => k_is)
    (case k22 => k_is)
    (case a23 => k_is)
    (case l23 => k_is)
    (case c23 => k_is)
    (case k23 => k_is)
    (case a24 => k_is)
    (case l24 => k_is)
    (case c24 => k_is)
    (case k24 => k_is)
    (case g_MOST_WITHIN => k_is)
    (case g_SIZES => k_is)
    (case y1 => k_is)
    (case y2 => exact ⟨⟨_, _, rfl, rfl⟩, ⟨_, _, rfl, rfl⟩, ⟨_, _, rfl, rfl⟩, ⟨_, _, rfl, rfl⟩, trivial⟩)
    (case y3 => k_is)
    (case y4 => k_is)
    (case y5 => k_is)
    (case y6 => k_is)
    (case y7 => k_is)
    (case y8 => k_is)
    (case y9 => k_is)
    (case y10 => rfl)
    (case g_THINGS => k_is)
    (case g_MOST_LOOKS => k_is)
    (case g_BadCondition => k_is)
    (case xq_BadCondition => k_exc)
    (case xk_BadCondition => k_is)
    (case xb_BadCondition => k_is)
    (case xt_BadCondition => k_is)
    (case xeg_BadCondition => k_is)
    (case xek_BadCondition => k_is)
    (case xes_BadCondition => k_is)
    (case xed_BadCondition => k_is)
    (case xea_BadCondition => k_is)
    (case xen_BadCondition => k_is)
    (case xet_BadCondition => k_is)
    (case xem_BadCondition => k_is)
    (case g_LETTERS => k_is)
    (case g_BadText => k_is)
    (case xl_BadText => k_is)
    (case xr_BadText => (first | rfl | decide +kernel | k_is))
    (case xs_BadText => k_is)
    (case xb_BadText => k_is)
    (case xt_BadText => k_is)
    (case xk_BadText => k_is)
    (case no_BadText => k_is)
    (case xi_BadText => k_is)
    (case xj_BadText => k_is)
    (case il_BadText => k_is)
    (case ic_BadText => k_is)
    (case ik_BadText => k_is)
    (case xfga_BadText => k_is)
    (case xfgg_BadText => k_is)
    (case xfex_BadText => k_is)
    (case xfhd_BadText => k_is)
    (case xeg_BadText => k_is)
    (case xek_BadText => k_is)
    (case xes_BadText => k_is)
    (case xed_BadText => k_is)
    (case xea_BadText => k_is)
    (case xen_BadText => k_is)
    (case xet_BadText => k_is)
    (case xem_BadText => k_is)
    (case g_Reader => k_is)
    (case g_BadEnd => k_is)
    (case g_BadTurns => k_is)
    (case g_BadWorths => k_is)
    (case g_TooMany => k_is)
    (case g_BadChances => k_is)
    (case g_BadCode => k_is)
    (case g_JumpError => k_is)
    (case jr_JumpError => k_is)
    (case jg_JumpError => k_is)
    (case ja_JumpError => k_is)
    (case a4 => k_is)
    (case l4 => k_is)
    (case c4 => k_is)
    (case k4 => k_is)
    (case n4 => k_is)
    (case a5 => k_is)
    (case l5 => k_is)
    (case c5 => k_is)
    (case k5 => k_is)
    (case n5 => k_is)
    (case a6 => k_is)
    (case l6 => k_is)
    (case c6 => k_is)
    (case k6 => k_is)
    (case n6 => k_is)
    (case a7 => k_is)
    (case l7 => k_is)
    (case c7 => k_is)
    (case k7 => k_is)
    (case n7 => k_is)
    (case cg_Reader => k_is)
    (case ch_Reader => k_is)
    (case co_Reader => k_is)
    (case cs_Reader => k_is)
    (case ct_Reader => k_is)
    (case cp_Reader => k_is)
    (case cm_Reader => k_is)
    (case ck_Reader => k_is)
    (case z_range => k_is)
    (case z_isinstance => k_is)
    (case z_len => k_is)
    (case z_int => k_is)
    (case z_bool => k_is)
    (case z_str => k_is)
    (case z_tuple => k_is)
    (case z_list => k_is)
    (case z_sum => k_is)
    (case z_max => k_is)
    (case z_min => k_is)
    (case z_all => k_is)
    (case z_sorted => k_is)
    (case z_enumerate => k_is)
    (case z_ValueError => k_is)
    (case exm_BadCondition_JumpError => kts_exm)
    (case kf_BadCondition_BadChances => kit_is)
    (case kf_BadCondition_BadCode => kit_is)
    (case kf_BadCondition_BadEnd => kit_is)
    (case kf_BadCondition_BadText => kit_is)
    (case kf_BadCondition_BadTurns => kit_is)
    (case kf_BadCondition_BadWorths => kit_is)
    (case kf_BadCondition_TooMany => kit_is)
    (case kt_BadCondition_BadCondition => kit_is)
    (case kv_BadCondition => kit_is)
    (case exm_BadText_JumpError => kts_exm)
    (case kf_BadText_BadChances => kit_is)
    (case kf_BadText_BadCode => kit_is)
    (case kf_BadText_BadCondition => kit_is)
    (case kf_BadText_BadEnd => kit_is)
    (case kf_BadText_BadTurns => kit_is)
    (case kf_BadText_BadWorths => kit_is)
    (case kf_BadText_TooMany => kit_is)
    (case kt_BadText_BadText => kit_is)
    (case kv_BadText => kit_is)
#print axioms PySem.Challenge.cw_jumpsay_k11_texts_refused_holds
