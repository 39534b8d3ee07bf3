import PyProof.Rows.All
import Wide.All
import OpenK.AllK
import Wide.FinOn
import HandS.ForMost
import HandS.Exc
import HandS.TupAny
import HandS.Wide
import HandS.ExcOwn
import HandS.WordsExc
import HandS.Zip
import HandS.IsInst
import HandS.Style
import KE.KTupSum
import PySem.Challenge.RW_grownanyturn_k01_factorials_and_mixtures
set_option Elab.async false
set_option linter.all false
set_option maxRecDepth 100000
set_option autoImplicit false
set_option maxHeartbeats 4000000
namespace G
open PySem PySem.Spec PyProof.Rows L2

/-! ### data -/
inductive D where
  | non | bl (b : Bool) | int (i : Int) | str (x : Str)
  | tup (xs : List D) | lst (xs : List D) | dic (ks vs : List D) | set (xs : List D)
  deriving Inhabited
mutual
def D.same : D → D → Bool
  | .non, .non => true
  | .bl a, .bl b => a == b
  | .int a, .int b => a == b
  | .str a, .str b => a == b
  | .tup a, .tup b => D.sames a b
  | .lst a, .lst b => D.sames a b
  | .dic a c, .dic b e => D.sames a b && D.sames c e
  | .set a, .set b => D.sames a b
  | _, _ => false
def D.sames : List D → List D → Bool
  | [], [] => true
  | x :: xs, y :: ys => D.same x y && D.sames xs ys
  | _, _ => false
end
/-- a slot of a def: unset, a value, an object of the def's own (lent: a caller's) with what it holds -/
inductive SV where
  | un | v (d : D) | ow (lent : Bool) (d : D)
  deriving Inhabited
abbrev SS := List SV
abbrev Ex := Nat × List D
abbrev R (α : Type) := SS → Option (Except Ex α × SS)
def ret {α : Type} (a : α) : R α := fun st => some (.ok a, st)
def bnd {α β : Type} (m : R α) (k : α → R β) : R β := fun st => match m st with
  | none => none
  | some (.error x, st') => some (.error x, st')
  | some (.ok a, st') => k a st'
def stuck {α : Type} : R α := fun _ => none
def lift {α : Type} (o : Option α) : R α := fun st => match o with
  | none => none
  | some a => some (.ok a, st)

/-! ### what stands for it -/
mutual
def Rep (K : PySem.W.Frag) (S : Hp) : D → V → Prop
  | .non, v => v = .non
  | .bl b, v => v = .bl b
  | .int i, v => v = .int i
  | .str x, v => v = .str x
  | .tup ds, v => ∃ a vs, v = .ref a ∧ SqT K S a vs ∧ Reps K S ds vs
  | .lst ds, v => ∃ a vs, v = .ref a ∧ SqL K S a vs ∧ Reps K S ds vs
  | .dic _ _, _ => False
  | .set _, _ => False
def Reps (K : PySem.W.Frag) (S : Hp) : List D → List V → Prop
  | [], vs => vs = []
  | d :: ds, vs => ∃ v r, vs = v :: r ∧ Rep K S d v ∧ Reps K S ds r
end
/-- an object and what it holds -/
def RepO (K : PySem.W.Frag) (S : Hp) : D → HO → Prop
  | .lst ds, .lst vs => Reps K S ds vs
  | _, _ => False
theorem sameT {K : PySem.W.Frag} {H H' : Hp} {a : Addr} {xs : List V} (e : Same H H') (h : SqT K H a xs) : SqT K H' a xs := by
  rcases h with (h | ⟨o, h⟩) | h
  · exact .inl (.inl (e _ _ h))
  · exact .inl (.inr ⟨o, e _ _ h⟩)
  · exact .inr h
mutual
theorem Rep.mono {K : PySem.W.Frag} {S S' : Hp} (e : Same S S') : ∀ {d : D} {v : V}, Rep K S d v → Rep K S' d v
  | .non, _, h => h
  | .bl _, _, h => h
  | .int _, _, h => h
  | .str _, _, h => h
  | .tup ds, _, h => by
    simp only [Rep] at h ⊢
    obtain ⟨a, vs, rfl, h1, h2⟩ := h
    exact ⟨a, vs, rfl, sameT e h1, Reps.mono e h2⟩
  | .lst ds, _, h => by
    simp only [Rep] at h ⊢
    obtain ⟨a, vs, rfl, h1, h2⟩ := h
    exact ⟨a, vs, rfl, e.seq h1, Reps.mono e h2⟩
  | .dic _ _, _, h => by simp only [Rep] at h
  | .set _, _, h => by simp only [Rep] at h
theorem Reps.mono {K : PySem.W.Frag} {S S' : Hp} (e : Same S S') : ∀ {ds : List D} {vs : List V}, Reps K S ds vs → Reps K S' ds vs
  | [], _, h => h
  | d :: ds, _, h => by
    simp only [Reps] at h ⊢
    obtain ⟨v, r, rfl, h1, h2⟩ := h
    exact ⟨v, r, rfl, Rep.mono e h1, Reps.mono e h2⟩
end
theorem RepO.mono {K : PySem.W.Frag} {S S' : Hp} (e : Same S S') {d : D} {o : HO} (h : RepO K S d o) : RepO K S' d o := by
  cases d <;> cases o <;> simp only [RepO] at h ⊢
  exact Reps.mono e h
theorem Reps.length {K : PySem.W.Frag} {S : Hp} : ∀ {ds : List D} {vs : List V}, Reps K S ds vs → vs.length = ds.length
  | [], _, h => by simp only [Reps] at h; subst h; rfl
  | d :: ds, _, h => by
    simp only [Reps] at h
    obtain ⟨v, r, rfl, h1, h2⟩ := h
    simp [Reps.length h2]
theorem Reps.get {K : PySem.W.Frag} {S : Hp} : ∀ {ds : List D} {vs : List V} {i : Nat} {d : D}, Reps K S ds vs → ds[i]? = some d → ∃ v, vs[i]? = some v ∧ Rep K S d v
  | [], _, _, _, _, e => by simp at e
  | d :: ds, _, i, d', h, e => by
    simp only [Reps] at h
    obtain ⟨v, r, rfl, h1, h2⟩ := h
    cases i with
    | zero => simp at e; subst e; exact ⟨v, rfl, h1⟩
    | succ i => exact Reps.get (i := i) h2 (by simpa using e)
theorem Reps.append {K : PySem.W.Frag} {S : Hp} : ∀ {ds es : List D} {vs us : List V}, Reps K S ds vs → Reps K S es us → Reps K S (ds ++ es) (vs ++ us)
  | [], _, _, _, h, h' => by simp only [Reps] at h; subst h; exact h'
  | d :: ds, es, _, us, h, h' => by
    simp only [Reps] at h
    obtain ⟨v, r, rfl, h1, h2⟩ := h
    show Reps K S (d :: (ds ++ es)) (v :: (r ++ us))
    simp only [Reps]
    exact ⟨v, _, rfl, h1, Reps.append h2 h'⟩
theorem Reps.one {K : PySem.W.Frag} {S : Hp} {d : D} {v : V} (h : Rep K S d v) : Reps K S [d] [v] := by
  simp only [Reps]
  exact ⟨v, [], rfl, h, rfl⟩
theorem Reps.cons {K : PySem.W.Frag} {S : Hp} {d : D} {v : V} {ds : List D} {vs : List V} (h : Rep K S d v) (t : Reps K S ds vs) : Reps K S (d :: ds) (v :: vs) := by
  simp only [Reps]
  exact ⟨v, vs, rfl, h, t⟩
theorem Reps.nil {K : PySem.W.Frag} {S : Hp} : Reps K S [] [] := by simp only [Reps]
theorem Reps.nil_iff {K : PySem.W.Frag} {S : Hp} {vs : List V} : Reps K S [] vs ↔ vs = [] := by simp only [Reps]
theorem Reps.cons_iff {K : PySem.W.Frag} {S : Hp} {d : D} {ds : List D} {vs : List V} : Reps K S (d :: ds) vs ↔ ∃ v r, vs = v :: r ∧ Rep K S d v ∧ Reps K S ds r := by simp only [Reps]
theorem Reps.take {K : PySem.W.Frag} {S : Hp} : ∀ {ds : List D} {vs : List V} (n : Nat), Reps K S ds vs → Reps K S (ds.take n) (vs.take n)
  | [], _, n, h => by simp only [Reps] at h; subst h; simp [Reps.nil]
  | d :: ds, _, 0, h => by simp [Reps.nil]
  | d :: ds, _, n + 1, h => by
    obtain ⟨v, r, rfl, h1, h2⟩ := Reps.cons_iff.mp h
    exact Reps.cons h1 (Reps.take n h2)
theorem Reps.drop {K : PySem.W.Frag} {S : Hp} : ∀ {ds : List D} {vs : List V} (n : Nat), Reps K S ds vs → Reps K S (ds.drop n) (vs.drop n)
  | [], _, n, h => by simp only [Reps] at h; subst h; simp [Reps.nil]
  | d :: ds, _, 0, h => h
  | d :: ds, _, n + 1, h => by
    obtain ⟨v, r, rfl, h1, h2⟩ := Reps.cons_iff.mp h
    exact Reps.drop n h2
theorem Reps.set {K : PySem.W.Frag} {S : Hp} {d : D} {v : V} (q : Rep K S d v) : ∀ {ds : List D} {vs : List V} (n : Nat), Reps K S ds vs → Reps K S (ds.set n d) (vs.set n v)
  | [], _, n, h => by simp only [Reps] at h; subst h; simp [Reps.nil]
  | e :: ds, _, 0, h => by
    obtain ⟨v, r, rfl, h1, h2⟩ := Reps.cons_iff.mp h
    exact Reps.cons q h2
  | e :: ds, _, n + 1, h => by
    obtain ⟨v, r, rfl, h1, h2⟩ := Reps.cons_iff.mp h
    exact Reps.cons h1 (Reps.set q n h2)

/-! ### hidden objects -/
open Classical in
noncomputable def hid (O : Addr → Prop) (H : Hp) : Hp := fun a => if O a then none else H a
theorem hid_no {O : Addr → Prop} {H : Hp} {a : Addr} (h : ¬ O a) : hid O H a = H a := by unfold hid; rw [if_neg h]
theorem hid_yes {O : Addr → Prop} {H : Hp} {a : Addr} (h : O a) : hid O H a = none := by unfold hid; rw [if_pos h]
theorem hid_some {O : Addr → Prop} {H : Hp} {a : Addr} {o : HO} (h : hid O H a = some o) : ¬ O a ∧ H a = some o := by
  by_cases q : O a
  · rw [hid_yes q] at h; cases h
  · rw [hid_no q] at h; exact ⟨q, h⟩
theorem hid_same {O : Addr → Prop} {H : Hp} : Same (hid O H) H := fun _ _ e => (hid_some e).2
/-- less hidden, more there -/
theorem hid_mono {O O' : Addr → Prop} {H H' : Hp} (h : ∀ a o, ¬ O a → H a = some o → H' a = some o) (h2 : ∀ a o, H a = some o → O' a → O a) : Same (hid O H) (hid O' H') := fun a o e => by
  obtain ⟨n, e⟩ := hid_some e
  rw [hid_no fun z => n (h2 a o e z)]
  exact h a o n e
theorem hid_congr {O O' : Addr → Prop} {H : Hp} (h : ∀ a, O a ↔ O' a) : hid O H = hid O' H := by
  have : O = O' := funext fun a => propext (h a)
  rw [this]

def OwAt (st : SS) (σ : L2.St) (i : Nat) (a : Addr) : Prop := (∃ l d, st[i]? = some (.ow l d)) ∧ σ[i]? = some (some (.ref a))
def Ow (st : SS) (σ : L2.St) (a : Addr) : Prop := ∃ i, OwAt st σ i a
def Hd (st : SS) (σ : L2.St) (P : Addr → Prop) (a : Addr) : Prop := Ow st σ a ∨ P a
noncomputable abbrev Sh (st : SS) (σ : L2.St) (P : Addr → Prop) (H : Hp) : Hp := hid (Hd st σ P) H
/-- the slots, abstractly and in the heap; P: what is hidden besides -/
structure Rel (K : PySem.W.Frag) (st : SS) (σ : L2.St) (H : Hp) (P : Addr → Prop) : Prop where
  len : st.length = σ.length
  val : ∀ (i : Nat) (d : D), st[i]? = some (.v d) → ∃ v, σ[i]? = some (some v) ∧ Rep K (Sh st σ P H) d v
  own : ∀ (i : Nat) (l : Bool) (d : D), st[i]? = some (.ow l d) → ∃ a o, σ[i]? = some (some (.ref a)) ∧ H a = some o ∧ RepO K (Sh st σ P H) d o
  sep : ∀ (i j : Nat) (a : Addr), OwAt st σ i a → OwAt st σ j a → i = j
  sepP : ∀ (a : Addr), Ow st σ a → ¬ P a
  trk : ∀ (a : Addr), P a → H a ≠ none
/-- what is lent stays lent -/
def LK (st st' : SS) : Prop := st'.length = st.length ∧ ∀ (i : Nat) (d : D), st[i]? = some (.ow true d) → ∃ d', st'[i]? = some (.ow true d')
theorem LK.refl (st : SS) : LK st st := ⟨rfl, fun i d h => ⟨d, h⟩⟩
theorem LK.trans {a b c : SS} (x : LK a b) (y : LK b c) : LK a c := ⟨y.1.trans x.1, fun i d h => let ⟨_, h'⟩ := x.2 i d h; y.2 i _ h'⟩
/-- from one state to a later one of the same slots -/
structure Gr (st st' : SS) (σ : L2.St) (P P' : Addr → Prop) (H H' : Hp) : Prop where
  same : Same (Sh st σ P H) (Sh st' σ P' H')
  fr : ∀ (a : Addr), P a → H' a = H a
  lk : LK st st'
theorem Gr.refl {st : SS} {σ : L2.St} {P : Addr → Prop} {H : Hp} : Gr st st σ P P H H := ⟨Same.refl _, fun _ _ => rfl, LK.refl _⟩
theorem Gr.trans {st st1 st2 : SS} {σ : L2.St} {P P2 : Addr → Prop} {H H1 H2 : Hp} (x : Gr st st1 σ P P H H1) (y : Gr st1 st2 σ P P2 H1 H2) : Gr st st2 σ P P2 H H2 :=
  ⟨x.same.trans y.same, fun a h => (y.fr a h).trans (x.fr a h), x.lk.trans y.lk⟩

/-! ### readings of R -/
/-- what a result of kind α is, held by b : β; st' is the state behind, P' what is hidden then -/
abbrev OkR (α β : Type) := α → SS → L2.St → (Addr → Prop) → (Addr → Prop) → β → Hp → Prop
/-- how an exception is held -/
abbrev EXT := Ex → Value → Option Addr → Hp → Prop
section
variable {α β γ δ : Type}
def ErrP (K : PySem.W.Frag) (EX : EXT) (W : WX) (st : SS) (P : Addr → Prop) (σ : L2.St) (H : Hp) (r : Except Ex γ) (st' : SS) : Prop :=
  ∀ x, r = .error x → ∀ cls od H', EX x cls od H' → Rel K st' σ H' P → Gr st st' σ P P H H' → W cls od σ H'
def tR (K : PySem.W.Frag) (EX : EXT) (W : WX) (Ok : OkR α β) (m : R α) : L2.St → Hp → (β → Hp → Prop) → Prop := fun σ H Q =>
  ∃ st P r st', Rel K st σ H P ∧ m st = some (r, st') ∧ ErrP K EX W st P σ H r st' ∧
    ∀ a, r = .ok a → ∀ b H' P', Ok a st' σ P P' b H' → Rel K st' σ H' P' → Gr st st' σ P P' H H' → Q b H'
theorem ErrP.shift {K : PySem.W.Frag} {EX : EXT} {W : WX} {st st1 st' : SS} {P : Addr → Prop} {σ : L2.St} {H H1 : Hp} {r : Except Ex γ} (e : ErrP K EX W st P σ H r st') (g : Gr st st1 σ P P H H1) : ErrP K EX W st1 P σ H1 r st' :=
  fun x hx cls od H' h1 h2 h3 => e x hx cls od H' h1 h2 (g.trans h3)
theorem bnd_some {m : R α} {k : α → R γ} {st : SS} {r : Except Ex γ} {st' : SS} (h : bnd m k st = some (r, st')) :
    (∃ x, m st = some (.error x, st') ∧ r = .error x) ∨ ∃ a st1, m st = some (.ok a, st1) ∧ k a st1 = some (r, st') := by
  unfold bnd at h
  split at h
  · cases h
  · rename_i x st1 e
    cases h
    exact .inl ⟨x, e, rfl⟩
  · rename_i a st1 e
    exact .inr ⟨a, st1, e, h⟩
/-- THE STEP: m runs, then k -/
theorem tR_step {K : PySem.W.Frag} {EX : EXT} {W : WX} {Ok : OkR α β} {m : R α} {k : α → R γ} {st : SS} {P : Addr → Prop} {r : Except Ex γ} {st' : SS} {σ : L2.St} {H : Hp} {Q1 : β → Hp → Prop}
    (R0 : Rel K st σ H P) (hm : bnd m k st = some (r, st')) (er : ErrP K EX W st P σ H r st')
    (c : ∀ a st1 b H1 P1, Ok a st1 σ P P1 b H1 → Rel K st1 σ H1 P1 → Gr st st1 σ P P1 H H1 → k a st1 = some (r, st') → Q1 b H1) : tR K EX W Ok m σ H Q1 := by
  rcases bnd_some hm with ⟨x, e, rfl⟩ | ⟨a, st1, e, e2⟩
  · exact ⟨st, P, .error x, st', R0, e, fun y hy => er y (by cases hy; rfl), fun a ha => (by cases ha)⟩
  · exact ⟨st, P, .ok a, st1, R0, e, fun y hy => (by cases hy), fun a' ha b H1 P1 ok R1 g => (by cases ha; exact c a st1 b H1 P1 ok R1 g e2)⟩
end

/-! ### kinds of results -/
/-- a value; fresh: an object that nobody else has -/
def okM (K : PySem.W.Frag) : OkR (D × Bool) V := fun a st' σ P P' v H' => match a with
  | (d, false) => P' = P ∧ Rep K (Sh st' σ P H') d v
  | (d, true) => ∃ x o, v = .ref x ∧ ¬ P x ∧ P' = (fun y => P y ∨ y = x) ∧ H' x = some o ∧ RepO K (Sh st' σ P' H') d o
/-- a plain value -/
def okD (K : PySem.W.Frag) : OkR D V := fun d st' σ P P' v H' => P' = P ∧ Rep K (Sh st' σ P H') d v
/-- plain values -/
def okL (K : PySem.W.Frag) : OkR (List D) (List V) := fun ds st' σ P P' vs H' => P' = P ∧ Reps K (Sh st' σ P H') ds vs
/-- operands: a value, or the slot of an own object -/
inductive PV where
  | d (d : D) | pk (i : Nat)
  deriving Inhabited
def okPV (K : PySem.W.Frag) (p : PV) (st' : SS) (σ : L2.St) (P : Addr → Prop) (v : V) (H' : Hp) : Prop := match p with
  | .d d => Rep K (Sh st' σ P H') d v
  | .pk i => σ[i]? = some (some v)
def okO (K : PySem.W.Frag) : OkR PV V := fun p st' σ P P' v H' => P' = P ∧ okPV K p st' σ P v H'
def okPVs (K : PySem.W.Frag) : List PV → SS → L2.St → (Addr → Prop) → List V → Hp → Prop
  | [], _, _, _, vs, _ => vs = []
  | p :: ps, st', σ, P, vs, H' => ∃ v r, vs = v :: r ∧ okPV K p st' σ P v H' ∧ okPVs K ps st' σ P r H'
def okOs (K : PySem.W.Frag) : OkR (List PV) (List V) := fun ps st' σ P P' vs H' => P' = P ∧ okPVs K ps st' σ P vs H'
theorem okPV.mono {K : PySem.W.Frag} {p : PV} {st st' : SS} {σ : L2.St} {P : Addr → Prop} {v : V} {H H' : Hp} (h : okPV K p st σ P v H) (s : Same (Sh st σ P H) (Sh st' σ P H')) : okPV K p st' σ P v H' := by
  cases p with
  | d d => exact Rep.mono s h
  | pk i => exact h
theorem okPVs.mono {K : PySem.W.Frag} : ∀ {ps : List PV} {st st' : SS} {σ : L2.St} {P : Addr → Prop} {vs : List V} {H H' : Hp} (h : okPVs K ps st σ P vs H) (s : Same (Sh st σ P H) (Sh st' σ P H')), okPVs K ps st' σ P vs H'
  | [], _, _, _, _, _, _, _, h, _ => h
  | p :: ps, _, _, _, _, _, _, _, h, s => by
    obtain ⟨v, r, e, h1, h2⟩ := h
    exact ⟨v, r, e, h1.mono s, h2.mono s⟩
/-- what an operand holds when it is used -/
def rsv (st : SS) : PV → Option D
  | .d d => some d
  | .pk i => match st[i]? with
    | some (.v d) => some d
    | some (.ow _ d) => some d
    | _ => none
/-- d may be read at v -/
def Vw (K : PySem.W.Frag) (S H : Hp) (d : D) (v : V) : Prop := Rep K S d v ∨ ∃ a o, v = .ref a ∧ H a = some o ∧ RepO K S d o
theorem rsv_vw {K : PySem.W.Frag} {p : PV} {st : SS} {σ : L2.St} {P : Addr → Prop} {v : V} {H : Hp} {d : D} (R0 : Rel K st σ H P) (h : okPV K p st σ P v H) (e : rsv st p = some d) : Vw K (Sh st σ P H) H d v := by
  cases p with
  | d d' => cases e; exact .inl h
  | pk i =>
    have h : σ[i]? = some (some v) := h
    cases e' : st[i]? with
    | none => simp [rsv, e'] at e
    | some sv =>
      cases sv with
      | un => simp [rsv, e'] at e
      | v d' =>
        simp [rsv, e'] at e
        subst e
        obtain ⟨v', h1, h2⟩ := R0.val i _ e'
        rw [h] at h1; cases h1
        exact .inl h2
      | ow l d' =>
        simp [rsv, e'] at e
        subst e
        obtain ⟨a, o, h1, h2, h3⟩ := R0.own i _ _ e'
        rw [h] at h1; cases h1
        exact .inr ⟨a, o, rfl, h2, h3⟩
def Vws (K : PySem.W.Frag) (S H : Hp) : List D → List V → Prop
  | [], vs => vs = []
  | d :: ds, vs => ∃ v r, vs = v :: r ∧ Vw K S H d v ∧ Vws K S H ds r
def rsvs (st : SS) : List PV → Option (List D)
  | [] => some []
  | p :: ps => match rsv st p, rsvs st ps with
    | some d, some ds => some (d :: ds)
    | _, _ => none
theorem rsvs_vws {K : PySem.W.Frag} {st : SS} {σ : L2.St} {P : Addr → Prop} {H : Hp} (R0 : Rel K st σ H P) : ∀ {ps : List PV} {vs : List V} {ds : List D}, okPVs K ps st σ P vs H → rsvs st ps = some ds → Vws K (Sh st σ P H) H ds vs
  | [], _, _, h, e => by cases e; exact h
  | p :: ps, _, _, h, e => by
    obtain ⟨v, r, rfl, h1, h2⟩ := h
    unfold rsvs at e
    split at e
    · rename_i d ds e1 e2
      cases e
      exact ⟨v, r, rfl, rsv_vw R0 h1 e1, rsvs_vws R0 h2 e2⟩
    · cases e
end G
namespace G
open PySem PySem.Spec PyProof.Rows L2

/-! ### moves of the relation -/
section
variable {K : PySem.W.Frag} {st : SS} {σ : L2.St} {H H' : Hp} {P : Addr → Prop}
theorem RepO.rep {S S' : Hp} {d : D} {o : HO} {x : Addr} (h : RepO K S d o) (e : S' x = some o) (s : Same S S') : Rep K S' d (.ref x) := by
  cases d <;> cases o <;> simp only [RepO] at h
  simp only [Rep]
  exact ⟨x, _, rfl, SqL.of e, Reps.mono s h⟩
theorem Rel.hdT (R0 : Rel K st σ H P) {a : Addr} (h : Hd st σ P a) : H a ≠ none := by
  rcases h with ⟨i, ⟨l, d, e⟩, e2⟩ | h
  · obtain ⟨a', o, h1, h2, _⟩ := R0.own i l d e
    rw [e2] at h1; cases h1
    rw [h2]; exact fun z => nomatch z
  · exact R0.trk a h
theorem Rel.fresh (R0 : Rel K st σ H P) {a : Addr} (h : H a = none) : ¬ Hd st σ P a := fun z => R0.hdT z h
theorem same_hid {O : Addr → Prop} (s : Same H H') : Same (hid O H) (hid O H') := hid_mono (fun a o _ e => s a o e) fun _ _ _ z => z
/-- the heap has grown -/
theorem Rel.grow (R0 : Rel K st σ H P) (s : Same H H') : Rel K st σ H' P where
  len := R0.len
  val := fun i d e => let ⟨v, h1, h2⟩ := R0.val i d e; ⟨v, h1, h2.mono (same_hid s)⟩
  own := fun i l d e => let ⟨a, o, h1, h2, h3⟩ := R0.own i l d e; ⟨a, o, h1, s a o h2, h3.mono (same_hid s)⟩
  sep := R0.sep
  sepP := R0.sepP
  trk := fun a h => by
    cases q : H a with
    | none => exact absurd q (R0.trk a h)
    | some o => rw [s a o q]; exact fun z => nomatch z
theorem Gr.grow (R0 : Rel K st σ H P) (s : Same H H') : Gr st st σ P P H H' :=
  ⟨same_hid s, fun a h => (by
    cases q : H a with
    | none => exact absurd q (R0.trk a h)
    | some o => exact s a o q), LK.refl _⟩
theorem sh_no {a : Addr} (h : ¬ Hd st σ P a) : Sh st σ P H a = H a := hid_no h
theorem same_upd {p : Addr} {o : HO} (h : H p = none) : Same H (upd H p o) := fun b x e => by
  rw [upd_ne (ne_of_none e h)]; exact e
/-- a new object, hidden -/
theorem Rel.pend (R0 : Rel K st σ H P) {p : Addr} {o : HO} (hp : H p = none) : Rel K st σ (upd H p o) (fun y => P y ∨ y = p) := by
  have s : Same (Sh st σ P H) (Sh st σ (fun y => P y ∨ y = p) (upd H p o)) := hid_mono (fun a o' _ e => same_upd hp a o' e) fun a o' e z => by
    rcases z with z | z | z
    · exact .inl z
    · exact .inr z
    · subst z; rw [hp] at e; cases e
  refine ⟨R0.len, fun i d e => let ⟨v, h1, h2⟩ := R0.val i d e; ⟨v, h1, h2.mono s⟩, fun i l d e => let ⟨a, o', h1, h2, h3⟩ := R0.own i l d e; ⟨a, o', h1, same_upd hp a o' h2, h3.mono s⟩, R0.sep, fun a h z => ?_, fun a h => ?_⟩
  · rcases z with z | z
    · exact R0.sepP a h z
    · subst z; exact R0.fresh hp (.inl h)
  · rcases h with h | h
    · cases q : H a with
      | none => exact absurd q (R0.trk a h)
      | some o' => rw [same_upd hp a o' q]; exact fun z => nomatch z
    · subst h; rw [upd_same]; exact fun z => nomatch z
theorem Gr.pend (R0 : Rel K st σ H P) {p : Addr} {o : HO} (hp : H p = none) : Gr st st σ P (fun y => P y ∨ y = p) H (upd H p o) :=
  ⟨hid_mono (fun a o' _ e => same_upd hp a o' e) fun a o' e z => (by
    rcases z with z | z | z
    · exact .inl z
    · exact .inr z
    · subst z; rw [hp] at e; cases e), fun a h => upd_ne fun z => (by subst z; exact R0.fresh hp (.inr h)), LK.refl _⟩
theorem unpend_same {x : Addr} : Same (Sh st σ (fun y => P y ∨ y = x) H) (Sh st σ P H) := hid_mono (fun _ _ _ e => e) fun a o _ z => by
  rcases z with z | z
  · exact .inl z
  · exact .inr (.inl z)
/-- the hidden new object is seen by all -/
theorem Rel.unpend {x : Addr} {d : D} {o : HO} (R0 : Rel K st σ H (fun y => P y ∨ y = x)) (hP : ¬ P x) (hx : H x = some o) (h : RepO K (Sh st σ (fun y => P y ∨ y = x) H) d o) :
    Rel K st σ H P ∧ Rep K (Sh st σ P H) d (.ref x) := by
  have s : Same (Sh st σ (fun y => P y ∨ y = x) H) (Sh st σ P H) := unpend_same
  refine ⟨⟨R0.len, fun i d e => let ⟨v, h1, h2⟩ := R0.val i d e; ⟨v, h1, h2.mono s⟩, fun i l d e => let ⟨a, o', h1, h2, h3⟩ := R0.own i l d e; ⟨a, o', h1, h2, h3.mono s⟩, R0.sep, fun a h z => R0.sepP a h (.inl z), fun a h => R0.trk a (.inl h)⟩, ?_⟩
  have hn : ¬ Hd st σ P x := fun z => by
    rcases z with z | z
    · exact R0.sepP x z (.inr rfl)
    · exact hP z
  exact h.rep (by rw [sh_no hn]; exact hx) s
end

/-! ### the judgements -/
section
variable (X : Cx) (EX : EXT) (W : WX)
abbrev tE (K : PySem.W.Frag) (m : R (D × Bool)) : TE := tR K EX W (okM K) m
def SE (e : Expr) (m : R (D × Bool)) : Prop := PE X e (tR X.K EX W (okM X.K) m)
def SD (e : Expr) (m : R D) : Prop := PE X e (tR X.K EX W (okD X.K) m)
def SO (e : Expr) (m : R PV) : Prop := PE X e (tR X.K EX W (okO X.K) m)
def SL (es : List Expr) (m : R (List D)) : Prop := PA X es (tR X.K EX W (okL X.K) m)
def SOs (es : List Expr) (m : R (List PV)) : Prop := PA X es (tR X.K EX W (okOs X.K) m)
def okB : OkR Bool Bool := fun b _ _ P P' c _ => P' = P ∧ c = b
def ST (e : Expr) (m : R Bool) : Prop := PT X e (tR X.K EX W okB m)
end
theorem PE.weak {X : Cx} {e : Expr} {t t' : TE} (h : PE X e t) (w : ∀ σ H Q, t' σ H Q → t σ H Q) : PE X e t' := ⟨fun pins s σ H Q I q => h.run pins s σ H Q I (w σ H Q q)⟩
theorem PT.weak {X : Cx} {e : Expr} {t t' : TT} (h : PT X e t) (w : ∀ σ H Q, t' σ H Q → t σ H Q) : PT X e t' := ⟨fun pins s σ H Q I q => h.run pins s σ H Q I (w σ H Q q)⟩
theorem PA.weak {X : Cx} {e : List Expr} {t t' : TA} (h : PA X e t) (w : ∀ σ H Q, t' σ H Q → t σ H Q) : PA X e t' := ⟨fun pos pins s σ H Q I q => h.run pos pins s σ H Q I (w σ H Q q)⟩

/-- what an operation's result must serve -/
structure ResQ (K : PySem.W.Frag) (O : Addr → Prop) (H : Hp) (d : D) (b : Bool) (Q : V → Hp → Prop) : Prop where
  val : b = false → ∀ v H', Same H H' → Rep K (hid O H') d v → Q v H'
  obj : b = true → ∀ p o, H p = none → RepO K (hid O H) d o → Q (.ref p) (upd H p o)
section
variable {K : PySem.W.Frag} {st : SS} {σ : L2.St} {H : Hp} {P : Addr → Prop}
/-- from what is wanted of the result -/
theorem resQ_of {d : D} {b : Bool} {Q : V → Hp → Prop} (R0 : Rel K st σ H P) (q : ∀ v H' P', okM K (d, b) st σ P P' v H' → Rel K st σ H' P' → Gr st st σ P P' H H' → Q v H') : ResQ K (Hd st σ P) H d b Q where
  val := fun hb v H' s r => by
    subst hb
    exact q v H' P ⟨rfl, r⟩ (R0.grow s) (Gr.grow R0 s)
  obj := fun hb p o hp r => by
    subst hb
    refine q _ _ _ ⟨p, o, rfl, fun z => R0.fresh hp (.inr z), rfl, upd_same, r.mono ?_⟩ (R0.pend hp) (Gr.pend R0 hp)
    exact (Gr.pend R0 hp).same
end
section
variable {X : Cx} {EX : EXT} {W : WX}

/-! ### conversions -/
def frz (m : R (D × Bool)) : R D := bnd m fun p => ret p.1
def opd (m : R (D × Bool)) : R PV := bnd m fun p => ret (.d p.1)
theorem ret_some {α : Type} {a : α} {st : SS} {r : Except Ex α} {st' : SS} (h : ret a st = some (r, st')) : r = .ok a ∧ st' = st := by
  unfold ret at h; cases h; exact ⟨rfl, rfl⟩
/-- m's value as a plain one -/
theorem tR_plain {K : PySem.W.Frag} {γ : Type} {m : R (D × Bool)} {k : D × Bool → R γ} {st : SS} {P : Addr → Prop} {r : Except Ex γ} {st' : SS} {σ : L2.St} {H : Hp} {Q1 : V → Hp → Prop}
    (R0 : Rel K st σ H P) (hm : bnd m k st = some (r, st')) (er : ErrP K EX W st P σ H r st')
    (c : ∀ d f st1 v H1, Rep K (Sh st1 σ P H1) d v → Rel K st1 σ H1 P → Gr st st1 σ P P H H1 → k (d, f) st1 = some (r, st') → Q1 v H1) : tR K EX W (okM K) m σ H Q1 := by
  refine tR_step R0 hm er fun a st1 v H1 P1 ok R1 g hk => ?_
  obtain ⟨d, f⟩ := a
  cases f with
  | false =>
    obtain ⟨rfl, r1⟩ := ok
    exact c d false st1 v H1 r1 R1 g hk
  | true =>
    obtain ⟨x, o, rfl, hP, rfl, hx, ro⟩ := ok
    obtain ⟨R2, r2⟩ := R1.unpend hP hx ro
    exact c d true st1 _ H1 r2 R2 ⟨g.same.trans unpend_same, g.fr, g.lk⟩ hk
theorem sd_of {e : Expr} {m : R (D × Bool)} (h : SE X EX W e m) : SD X EX W e (frz m) := by
  refine PE.weak h fun σ H Q ⟨st, P, r, st', R0, hm, er, q⟩ => tR_plain R0 hm er fun d f st1 v H1 r1 R1 g hk => ?_
  obtain ⟨rfl, rfl⟩ := ret_some hk
  exact q d rfl v H1 P ⟨rfl, r1⟩ R1 g
theorem so_of {e : Expr} {m : R (D × Bool)} (h : SE X EX W e m) : SO X EX W e (opd m) := by
  refine PE.weak h fun σ H Q ⟨st, P, r, st', R0, hm, er, q⟩ => tR_plain R0 hm er fun d f st1 v H1 r1 R1 g hk => ?_
  obtain ⟨rfl, rfl⟩ := ret_some hk
  exact q _ rfl v H1 P ⟨rfl, r1⟩ R1 g

/-! ### leaves -/
def cst (d : D) : R (D × Bool) := ret (d, false)
theorem tC_of {v : V} {d : D} (hr : ∀ S, Rep X.K S d v) {σ : L2.St} {H : Hp} {Q : V → Hp → Prop} (h : tR X.K EX W (okM X.K) (cst d) σ H Q) : tC v σ H Q := by
  obtain ⟨st, P, r, st', R0, hm, er, q⟩ := h
  obtain ⟨rfl, rfl⟩ := ret_some hm
  exact q _ rfl v H P ⟨rfl, hr _⟩ R0 Gr.refl
theorem se_int {i : Int} {j pos} : SE X EX W (.Constant (.int i) j pos) (cst (.int i)) := PE.weak pe_int fun σ H Q h => tC_of (fun _ => by simp only [Rep]) h
theorem se_bl {b : Bool} {j pos} : SE X EX W (.Constant (.bool b) j pos) (cst (.bl b)) := PE.weak pe_bl fun σ H Q h => tC_of (fun _ => by simp only [Rep]) h
theorem se_non {j pos} : SE X EX W (.Constant .none j pos) (cst .non) := PE.weak pe_non fun σ H Q h => tC_of (fun _ => by simp only [Rep]) h
theorem se_str {x : Str} {j pos} : SE X EX W (.Constant (.str x) j pos) (cst (.str x)) := PE.weak pe_str fun σ H Q h => tC_of (fun _ => by simp only [Rep]) h
/-- a constant of the module -/
theorem se_glob {x : Str} {u : Value} {v : V} {d : D} {pos : Pos} (hg : Gl X x) (hm : X.mg x = some u) (r : RelV v u) (hr : ∀ S, Rep X.K S d v) (hd : (x == ("__debug__" : Str)) = false := by decide) : SE X EX W (.Name x pos) (cst d) :=
  PE.weak (pe_glob hg hm r hd) fun σ H Q h => tC_of hr h
/-- a slot as an operand: an own object is not handed on -/
def pk (i : Nat) : R PV := fun st => match st[i]? with
  | some (.v d) => some (.ok (.d d), st)
  | some (.ow _ _) => some (.ok (.pk i), st)
  | _ => none
/-- a slot as a value: an own object is everybody's from here on -/
def rd (i : Nat) : R (D × Bool) := fun st => match st[i]? with
  | some (.v d) => some (.ok (d, false), st)
  | some (.ow false d) => some (.ok (d, false), st.set i (.v d))
  | _ => none
theorem so_pk {i : Nat} {x : Str} {pos : Pos} (hN : X.N[i]? = some x) (hv : Vis X.env.scope x) (hd : (x == ("__debug__" : Str)) = false := by decide) (hcd : (x == ("__classdict__" : Str)) = false := by decide) : SO X EX W (.Name x pos) (pk i) := by
  refine PE.weak (pe_var hN hv hd hcd) fun σ H Q ⟨st, P, r, st', R0, hm, er, q⟩ => ?_
  cases e : st[i]? with
  | none => simp [pk, e] at hm
  | some sv =>
    cases sv with
    | un => simp [pk, e] at hm
    | v d =>
      simp [pk, e] at hm
      obtain ⟨rfl, rfl⟩ := hm
      obtain ⟨v, h1, h2⟩ := R0.val i d e
      exact ⟨v, h1, q _ rfl v H P ⟨rfl, h2⟩ R0 Gr.refl⟩
    | ow l d =>
      simp [pk, e] at hm
      obtain ⟨rfl, rfl⟩ := hm
      obtain ⟨a, o, h1, h2, h3⟩ := R0.own i l d e
      exact ⟨.ref a, h1, q _ rfl _ H P ⟨rfl, h1⟩ R0 Gr.refl⟩
/-- slot i lets its object go -/
theorem Rel.escape {K : PySem.W.Frag} {st : SS} {σ : L2.St} {H : Hp} {P : Addr → Prop} {i : Nat} {d : D} (R0 : Rel K st σ H P) (e : st[i]? = some (.ow false d)) :
    ∃ a, σ[i]? = some (some (.ref a)) ∧ Rel K (st.set i (.v d)) σ H P ∧ Gr st (st.set i (.v d)) σ P P H H ∧ Rep K (Sh (st.set i (.v d)) σ P H) d (.ref a) := by
  obtain ⟨a, o, h1, h2, h3⟩ := R0.own i _ _ e
  have hi : i < st.length := (List.getElem?_eq_some_iff.mp e).1
  have back : ∀ j b, OwAt (st.set i (.v d)) σ j b → OwAt st σ j b ∧ j ≠ i := fun j b ⟨⟨l, d', e1⟩, e2⟩ => by
    by_cases hj : i = j
    · subst hj; rw [List.getElem?_set_self hi] at e1; cases e1
    · rw [List.getElem?_set_ne hj] at e1
      exact ⟨⟨⟨l, d', e1⟩, e2⟩, fun z => hj z.symm⟩
  have s : Same (Sh st σ P H) (Sh (st.set i (.v d)) σ P H) := hid_mono (fun _ _ _ e => e) fun b o _ z => by
    rcases z with ⟨j, z⟩ | z
    · exact .inl ⟨j, (back j b z).1⟩
    · exact .inr z
  have na : ¬ Hd (st.set i (.v d)) σ P a := fun z => by
    rcases z with ⟨j, z⟩ | z
    · obtain ⟨z1, z2⟩ := back j a z
      exact z2 (R0.sep j i a z1 ⟨⟨_, _, e⟩, h1⟩)
    · exact R0.sepP a ⟨i, ⟨_, _, e⟩, h1⟩ z
  have rp : Rep K (Sh (st.set i (.v d)) σ P H) d (.ref a) := h3.rep (by rw [sh_no na]; exact h2) s
  refine ⟨a, h1, ⟨by rw [List.length_set]; exact R0.len, fun j d' ej => ?_, fun j l d' ej => ?_, fun j k b h h' => R0.sep j k b (back j b h).1 (back k b h').1, fun b ⟨j, h⟩ => R0.sepP b ⟨j, (back j b h).1⟩, R0.trk⟩, ⟨s, fun _ _ => rfl, by simp, fun j d' ej => ?_⟩, rp⟩
  · by_cases hj : i = j
    · subst hj; rw [List.getElem?_set_self hi] at ej; cases ej
      exact ⟨_, h1, rp⟩
    · rw [List.getElem?_set_ne hj] at ej
      obtain ⟨v, q1, q2⟩ := R0.val j d' ej
      exact ⟨v, q1, q2.mono s⟩
  · by_cases hj : i = j
    · subst hj; rw [List.getElem?_set_self hi] at ej; cases ej
    · rw [List.getElem?_set_ne hj] at ej
      obtain ⟨b, o', q1, q2, q3⟩ := R0.own j l d' ej
      exact ⟨b, o', q1, q2, q3.mono s⟩
  · by_cases hj : i = j
    · subst hj; rw [e] at ej; cases ej
    · exact ⟨d', by rw [List.getElem?_set_ne hj]; exact ej⟩
theorem se_rd {i : Nat} {x : Str} {pos : Pos} (hN : X.N[i]? = some x) (hv : Vis X.env.scope x) (hd : (x == ("__debug__" : Str)) = false := by decide) (hcd : (x == ("__classdict__" : Str)) = false := by decide) : SE X EX W (.Name x pos) (rd i) := by
  refine PE.weak (pe_var hN hv hd hcd) fun σ H Q ⟨st, P, r, st', R0, hm, er, q⟩ => ?_
  cases e : st[i]? with
  | none => simp [rd, e] at hm
  | some sv =>
    cases sv with
    | un => simp [rd, e] at hm
    | v d =>
      simp [rd, e] at hm
      obtain ⟨rfl, rfl⟩ := hm
      obtain ⟨v, h1, h2⟩ := R0.val i d e
      exact ⟨v, h1, q _ rfl v H P ⟨rfl, h2⟩ R0 Gr.refl⟩
    | ow l d =>
      cases l with
      | true => simp [rd, e] at hm
      | false =>
        simp [rd, e] at hm
        obtain ⟨rfl, rfl⟩ := hm
        obtain ⟨a, h1, R1, g, rp⟩ := R0.escape e
        exact ⟨.ref a, h1, q _ rfl _ H P ⟨rfl, rp⟩ R1 g⟩

/-! ### operations on two operands -/
/-- r does what f says, S: what both are told of -/
def Op2 (K : PySem.W.Frag) (r : R2) (f : D → D → Option (D × Bool)) : Prop :=
  ∀ (O : Addr → Prop) (H : Hp) (x y : V) (dx dy d : D) (b : Bool) (Q : V → Hp → Prop), (∀ a, O a → H a ≠ none) → Vw K (hid O H) H dx x → Vw K (hid O H) H dy y → f dx dy = some (d, b) → ResQ K O H d b Q → r x y H Q
def use2 (f : D → D → Option (D × Bool)) (p q : PV) : R (D × Bool) := fun st => match rsv st p, rsv st q with
  | some x, some y => lift (f x y) st
  | _, _ => none
def op2 (f : D → D → Option (D × Bool)) (a b : R PV) : R (D × Bool) := bnd a fun p => bnd b fun q => use2 f p q
theorem lift_some {α : Type} {o : Option α} {st : SS} {r : Except Ex α} {st' : SS} (h : lift o st = some (r, st')) : ∃ a, o = some a ∧ r = .ok a ∧ st' = st := by
  cases o with
  | none => simp [lift] at h
  | some a => simp [lift] at h; exact ⟨a, rfl, h.1.symm, h.2.symm⟩
theorem op2_run {r : R2} {f : D → D → Option (D × Bool)} (hf : Op2 X.K r f) {a b : R PV} {σ : L2.St} {H : Hp} {Q : V → Hp → Prop} (h : tR X.K EX W (okM X.K) (op2 f a b) σ H Q) :
    tOp r (tR X.K EX W (okO X.K) a) (tR X.K EX W (okO X.K) b) σ H Q := by
  obtain ⟨st, P, r, st', R0, hm, er, q⟩ := h
  refine tR_step R0 hm er fun p st1 v H1 P1 ⟨hP, ok⟩ R1 g hk => ?_
  subst hP
  refine tR_step R1 hk (er.shift g) fun p2 st2 v2 H2 P2 ⟨hP2, ok2⟩ R2 g2 hk2 => ?_
  subst hP2
  have ok1 := ok.mono g2.same
  unfold use2 at hk2
  split at hk2
  · rename_i x y e1 e2
    obtain ⟨⟨d, bb⟩, ef, rfl, rfl⟩ := lift_some hk2
    refine hf _ H2 _ _ _ _ _ _ _ (fun a ha => R2.hdT ha) (rsv_vw R2 ok1 e1) (rsv_vw R2 ok2 e2) ef (resQ_of R2 fun v H' P' ok' R' g' => q _ rfl v H' P' ok' R' ?_)
    exact (g.trans g2).trans g'
  · cases hk2
theorem se_bin {op : Operator} {r : R2} {f : D → D → Option (D × Bool)} {a b : Expr} {ma mb : R PV} {pos : Pos} (ho : OpR X (binaryOp op) r) (hf : Op2 X.K r f) (ha : SO X EX W a ma) (hb : SO X EX W b mb) :
    SE X EX W (.BinOp a op b pos) (op2 f ma mb) := PE.weak (pe_op ho ha hb) fun σ H Q h => op2_run hf h
theorem se_cmp {op : CmpOp} {r : R2} {f : D → D → Option (D × Bool)} {a b : Expr} {ma mb : R PV} {pos : Pos} (ho : OpR X (compareOp op) r) (hf : Op2 X.K r f) (hm : behindInMarks op b = false) (ha : SO X EX W a ma) (hb : SO X EX W b mb) :
    SE X EX W (.Compare a [op] [b] pos) (op2 f ma mb) := PE.weak (pe_cmpR ho ha hb hm) fun σ H Q h => op2_run hf h
theorem se_ix {r : R2} {f : D → D → Option (D × Bool)} {a b : Expr} {ma mb : R PV} {pos : Pos} (ho : IxR X r) (hf : Op2 X.K r f) (hs : PlainIx b) (ha : SO X EX W a ma) (hb : SO X EX W b mb) :
    SE X EX W (.Subscript a b pos) (op2 f ma mb) := PE.weak (pe_ix ho ha hb hs) fun σ H Q h => op2_run hf h

/-! ### operations on one -/
def Op1 (K : PySem.W.Frag) (r : V → Hp → VK → Prop) (f : D → Option (D × Bool)) : Prop :=
  ∀ (O : Addr → Prop) (H : Hp) (x : V) (dx d : D) (b : Bool) (Q : V → Hp → Prop), (∀ a, O a → H a ≠ none) → Vw K (hid O H) H dx x → f dx = some (d, b) → ResQ K O H d b Q → r x H Q
def use1 (f : D → Option (D × Bool)) (p : PV) : R (D × Bool) := fun st => match rsv st p with
  | some x => lift (f x) st
  | none => none
def op1 (f : D → Option (D × Bool)) (a : R PV) : R (D × Bool) := bnd a fun p => use1 f p
theorem op1_run {r : V → Hp → VK → Prop} {f : D → Option (D × Bool)} (hf : Op1 X.K r f) {a : R PV} {σ : L2.St} {H : Hp} {Q : V → Hp → Prop} (h : tR X.K EX W (okM X.K) (op1 f a) σ H Q) :
    tUn r (tR X.K EX W (okO X.K) a) σ H Q := by
  obtain ⟨st, P, r, st', R0, hm, er, q⟩ := h
  refine tR_step R0 hm er fun p st1 v H1 P1 ⟨hP, ok⟩ R1 g hk => ?_
  subst hP
  unfold use1 at hk
  split at hk
  · rename_i x e1
    obtain ⟨⟨d, bb⟩, ef, rfl, rfl⟩ := lift_some hk
    exact hf _ H1 _ _ _ _ _ (fun a ha => R1.hdT ha) (rsv_vw R1 ok e1) ef (resQ_of R1 fun v H' P' ok' R' g' => q _ rfl v H' P' ok' R' (g.trans g'))
  · cases hk
theorem se_un {op : UnaryOp} {r : V → Hp → VK → Prop} {f : D → Option (D × Bool)} {a : Expr} {ma : R PV} {pos : Pos} (ho : UnR X (unaryOp op) r) (hf : Op1 X.K r f) (ha : SO X EX W a ma) : SE X EX W (.UnaryOp op a pos) (op1 f ma) :=
  PE.weak (pe_un ho ha) fun σ H Q h => op1_run hf h

/-! ### rows of operands, of values -/
def osN : R (List PV) := ret []
def osC (a : R PV) (r : R (List PV)) : R (List PV) := bnd a fun p => bnd r fun ps => ret (p :: ps)
theorem sos_nil : SOs X EX W [] osN := PA.weak pa_nil fun σ H Q ⟨st, P, r, st', R0, hm, er, q⟩ => by
  obtain ⟨rfl, rfl⟩ := ret_some hm
  exact q _ rfl [] H P ⟨rfl, rfl⟩ R0 Gr.refl
theorem sos_cons {e : Expr} {es : List Expr} {a : R PV} {r : R (List PV)} (ha : SO X EX W e a) (hr : SOs X EX W es r) (hs : starEach (e :: es) X.env = (false, eval e X.env) :: starEach es X.env := by rfl) : SOs X EX W (e :: es) (osC a r) :=
  PA.weak (pa_cons ha hr hs) fun σ H Q ⟨st, P, r, st', R0, hm, er, q⟩ => by
    refine tR_step R0 hm er fun p st1 v H1 P1 ⟨hP, ok⟩ R1 g hk => ?_
    subst hP
    refine tR_step R1 hk (er.shift g) fun ps st2 vs H2 P2 ⟨hP2, ok2⟩ R2 g2 hk2 => ?_
    subst hP2
    obtain ⟨rfl, rfl⟩ := ret_some hk2
    exact q _ rfl (v :: vs) H2 P2 ⟨rfl, v, vs, rfl, ok.mono g2.same, ok2⟩ R2 (g.trans g2)
def lsN : R (List D) := ret []
def lsC (a : R D) (r : R (List D)) : R (List D) := bnd a fun p => bnd r fun ps => ret (p :: ps)
theorem sl_nil : SL X EX W [] lsN := PA.weak pa_nil fun σ H Q ⟨st, P, r, st', R0, hm, er, q⟩ => by
  obtain ⟨rfl, rfl⟩ := ret_some hm
  exact q _ rfl [] H P ⟨rfl, Reps.nil⟩ R0 Gr.refl
theorem sl_cons {e : Expr} {es : List Expr} {a : R D} {r : R (List D)} (ha : SD X EX W e a) (hr : SL X EX W es r) (hs : starEach (e :: es) X.env = (false, eval e X.env) :: starEach es X.env := by rfl) : SL X EX W (e :: es) (lsC a r) :=
  PA.weak (pa_cons ha hr hs) fun σ H Q ⟨st, P, r, st', R0, hm, er, q⟩ => by
    refine tR_step R0 hm er fun p st1 v H1 P1 ⟨hP, ok⟩ R1 g hk => ?_
    subst hP
    refine tR_step R1 hk (er.shift g) fun ps st2 vs H2 P2 ⟨hP2, ok2⟩ R2 g2 hk2 => ?_
    subst hP2
    obtain ⟨rfl, rfl⟩ := ret_some hk2
    exact q _ rfl (v :: vs) H2 P2 ⟨rfl, Reps.cons (ok.mono g2.same) ok2⟩ R2 (g.trans g2)
/-- displays -/
def small {α : Type} (xs : List α) : Bool := decide (xs.length ≤ sizeLine)
def tupM (r : R (List D)) : R (D × Bool) := bnd r fun ds => if small ds then ret (.tup ds, false) else stuck
def lstM (r : R (List D)) : R (D × Bool) := bnd r fun ds => if small ds then ret (.lst ds, true) else stuck
theorem se_tup {es : List Expr} {x1 : Nat} {pos : Pos} {r : R (List D)} (h : SL X EX W es r) : SE X EX W (.Tuple es x1 pos) (tupM r) :=
  PE.weak (pe_tup h) fun σ H Q ⟨st, P, r, st', R0, hm, er, q⟩ => by
    refine tR_step R0 hm er fun ds st1 vs H1 P1 ⟨hP, ok⟩ R1 g hk => ?_
    subst hP
    split at hk
    · rename_i hz
      obtain ⟨rfl, rfl⟩ := ret_some hk
      have hl := ok.length
      have hz : ds.length ≤ sizeLine := of_decide_eq_true hz
      refine ⟨by rw [hl]; exact hz, fun p hp => ?_⟩
      have s := same_upd (o := .tup vs) hp
      refine q _ rfl _ _ P1 ⟨rfl, ?_⟩ (R1.grow s) (g.trans (Gr.grow R1 s))
      simp only [Rep]
      refine ⟨p, vs, rfl, SqT.of ?_, ok.mono (same_hid s)⟩
      rw [sh_no (R1.fresh hp), upd_same]
    · cases hk
theorem se_lst {es : List Expr} {pos : Pos} {r : R (List D)} (h : SL X EX W es r) : SE X EX W (.List es pos) (lstM r) :=
  PE.weak (pe_lst h) fun σ H Q ⟨st, P, r, st', R0, hm, er, q⟩ => by
    refine tR_step R0 hm er fun ds st1 vs H1 P1 ⟨hP, ok⟩ R1 g hk => ?_
    subst hP
    split at hk
    · rename_i hz
      obtain ⟨rfl, rfl⟩ := ret_some hk
      have hl := ok.length
      have hz : ds.length ≤ sizeLine := of_decide_eq_true hz
      refine ⟨by rw [hl]; exact hz, fun p hp => ?_⟩
      exact (resQ_of R1 fun v H' P' ok' R' g' => q _ rfl v H' P' ok' R' (g.trans g')).obj rfl p _ hp (by simp only [RepO]; exact ok)
    · cases hk

/-! ### calls of what Python has -/
def OpN (K : PySem.W.Frag) (r : List V → Hp → VK → Prop) (f : List D → Option (D × Bool)) : Prop :=
  ∀ (O : Addr → Prop) (H : Hp) (xs : List V) (ds : List D) (d : D) (b : Bool) (Q : V → Hp → Prop), (∀ a, O a → H a ≠ none) → Vws K (hid O H) H ds xs → f ds = some (d, b) → ResQ K O H d b Q → r xs H Q
def useN (f : List D → Option (D × Bool)) (ps : List PV) : R (D × Bool) := fun st => match rsvs st ps with
  | some ds => lift (f ds) st
  | none => none
def opN (f : List D → Option (D × Bool)) (a : R (List PV)) : R (D × Bool) := bnd a fun ps => useN f ps
theorem opN_run {r : List V → Hp → VK → Prop} {f : List D → Option (D × Bool)} (hf : OpN X.K r f) {a : R (List PV)} {σ : L2.St} {H : Hp} {Q : V → Hp → Prop} (h : tR X.K EX W (okM X.K) (opN f a) σ H Q) :
    tCB r (tR X.K EX W (okOs X.K) a) σ H Q := by
  obtain ⟨st, P, r, st', R0, hm, er, q⟩ := h
  refine tR_step R0 hm er fun ps st1 vs H1 P1 ⟨hP, ok⟩ R1 g hk => ?_
  subst hP
  unfold useN at hk
  split at hk
  · rename_i x e1
    obtain ⟨⟨d, bb⟩, ef, rfl, rfl⟩ := lift_some hk
    exact hf _ H1 _ _ _ _ _ (fun a ha => R1.hdT ha) (rsvs_vws R1 ok e1) ef (resQ_of R1 fun v H' P' ok' R' g' => q _ rfl v H' P' ok' R' (g.trans g'))
  · cases hk
theorem se_callB {x : Str} {p pos : Pos} {e : Expr} {es : List Expr} {id : String} {r : List V → Hp → VK → Prop} {f : List D → Option (D × Bool)} {m : R (List PV)} (hc : CallR X (.builtin id) r) (hf : OpN X.K r f) (hg : Gl X x) (hm : X.mg x = none) (hv : bootBuiltins x = some (.builtin id)) (ha : SOs X EX W (e :: es) m)
    (hn : x ≠ "__name__" := by decide) (hdb : (x == ("__debug__" : Str)) = false := by decide)
    (he : starEach (e :: es) X.env = (false, eval e X.env) :: starEach es X.env := by rfl) (hpl : (backTo pos (starEach es X.env)).any (·.1) = false := by rfl) : SE X EX W (.Call (.Name x p) (e :: es) [] pos) (opN f m) :=
  PE.weak (pe_callB hc hg hm hv ha hn hdb he hpl) fun σ H Q h => opN_run hf h
theorem se_callTy {x : Str} {p pos : Pos} {e : Expr} {es : List Expr} {T : String} {r : List V → Hp → VK → Prop} {f : List D → Option (D × Bool)} {m : R (List PV)} (hc : CallR X (.type T) r) (hf : OpN X.K r f) (hg : Gl X x) (hm : X.mg x = none) (hv : bootBuiltins x = some (.type T)) (ha : SOs X EX W (e :: es) m)
    (hn : x ≠ "__name__" := by decide) (hdb : (x == ("__debug__" : Str)) = false := by decide)
    (he : starEach (e :: es) X.env = (false, eval e X.env) :: starEach es X.env := by rfl) (hpl : (backTo pos (starEach es X.env)).any (·.1) = false := by rfl) : SE X EX W (.Call (.Name x p) (e :: es) [] pos) (opN f m) :=
  PE.weak (pe_callTy hc hg hm hv ha hn hdb he hpl) fun σ H Q h => opN_run hf h

/-! ### tests, and, or, not, if -/
def tst (m : R (D × Bool)) : R Bool := bnd m fun p => match p.1 with
  | .bl b => ret b
  | _ => stuck
theorem tst_run {m : R (D × Bool)} {σ : L2.St} {H : Hp} {Q : Bool → Hp → Prop} (h : tR X.K EX W okB (tst m) σ H Q) : tR X.K EX W (okM X.K) m σ H fun x H1 => ∃ c, x = .bl c ∧ Q c H1 := by
  obtain ⟨st, P, r, st', R0, hm, er, q⟩ := h
  refine tR_plain R0 hm er fun d f st1 v H1 r1 R1 g hk => ?_
  cases d with
  | bl b =>
    obtain ⟨rfl, rfl⟩ := ret_some hk
    cases r1
    exact ⟨b, rfl, q b rfl b H1 P ⟨rfl, rfl⟩ R1 g⟩
  | _ => simp [stuck] at hk
theorem st_cmp {op : CmpOp} {r : R2} {f : D → D → Option (D × Bool)} {a b : Expr} {ma mb : R PV} {pos : Pos} (ho : OpR X (compareOp op) r) (hf : Op2 X.K r f) (hm : behindInMarks op b = false) (ha : SO X EX W a ma) (hb : SO X EX W b mb) :
    ST X EX W (.Compare a [op] [b] pos) (tst (op2 f ma mb)) := PT.weak (pt_cmpR ho ha hb hm) fun σ H Q h => by
  have h1 := tst_run h
  exact op2_run hf h1
theorem st_val {e : Expr} {m : R (D × Bool)} (h : SE X EX W e m) (he : ∀ whole, isTrue e X.env whole = (do let v ← whole; standAt e.pos; holding [v] (truthy v)) := by intro _; rfl) : ST X EX W e (tst m) :=
  PT.weak (pt_val h he) fun σ H Q h => tst_run h
def notB (m : R Bool) : R Bool := bnd m fun b => ret (!b)
def andB (a b : R Bool) : R Bool := bnd a fun x => if x then b else ret false
def orB (a b : R Bool) : R Bool := bnd a fun x => if x then ret true else b
def SW (X : Cx) (EX : EXT) (W : WX) (e : Expr) (m : R Bool) : Prop := PW X e (tR X.K EX W okB m)
theorem PW.weak {e : Expr} {t t' : TT} (h : PW X e t) (w : ∀ σ H Q, t' σ H Q → t σ H Q) : PW X e t' := ⟨fun wh pins s σ H Q I q => h.run wh pins s σ H Q I (w σ H Q q)⟩
theorem st_not {e : Expr} {m : R Bool} {pos : Pos} (h : ST X EX W e m) : ST X EX W (.UnaryOp .Not e pos) (notB m) := PT.weak (pt_not h) fun σ H Q ⟨st, P, r, st', R0, hm, er, q⟩ => by
  refine tR_step R0 hm er fun b st1 c H1 P1 ⟨hP, hc⟩ R1 g hk => ?_
  subst hP; subst hc
  obtain ⟨rfl, rfl⟩ := ret_some hk
  exact q _ rfl _ H1 P1 ⟨rfl, rfl⟩ R1 g
theorem sw_and1 {e : Expr} {m : R Bool} {pos : Pos} (h : ST X EX W e m) : SW X EX W (.BoolOp .And [e] pos) m := pw_and1 h
theorem sw_or1 {e : Expr} {m : R Bool} {pos : Pos} (h : ST X EX W e m) : SW X EX W (.BoolOp .Or [e] pos) m := pw_or1 h
theorem andB_run {a b : R Bool} {σ : L2.St} {H : Hp} {Q : Bool → Hp → Prop} (h : tR X.K EX W okB (andB a b) σ H Q) : tAnd (tR X.K EX W okB a) (tR X.K EX W okB b) σ H Q := by
  obtain ⟨st, P, r, st', R0, hm, er, q⟩ := h
  refine tR_step R0 hm er fun b st1 c H1 P1 ⟨hP, hc⟩ R1 g hk => ?_
  subst hP; subst hc
  cases c with
  | true =>
    rw [if_pos rfl] at hk ⊢
    exact ⟨st1, P1, r, st', R1, hk, er.shift g, fun a ha v H' P' ok' R' g' => q a ha v H' P' ok' R' (g.trans g')⟩
  | false =>
    rw [if_neg Bool.false_ne_true] at hk ⊢
    obtain ⟨rfl, rfl⟩ := ret_some hk
    exact q _ rfl _ H1 P1 ⟨rfl, rfl⟩ R1 g
theorem orB_run {a b : R Bool} {σ : L2.St} {H : Hp} {Q : Bool → Hp → Prop} (h : tR X.K EX W okB (orB a b) σ H Q) : tOr (tR X.K EX W okB a) (tR X.K EX W okB b) σ H Q := by
  obtain ⟨st, P, r, st', R0, hm, er, q⟩ := h
  refine tR_step R0 hm er fun b st1 c H1 P1 ⟨hP, hc⟩ R1 g hk => ?_
  subst hP; subst hc
  cases c with
  | false =>
    rw [if_neg Bool.false_ne_true] at hk ⊢
    exact ⟨st1, P1, r, st', R1, hk, er.shift g, fun a ha v H' P' ok' R' g' => q a ha v H' P' ok' R' (g.trans g')⟩
  | true =>
    rw [if_pos rfl] at hk ⊢
    obtain ⟨rfl, rfl⟩ := ret_some hk
    exact q _ rfl _ H1 P1 ⟨rfl, rfl⟩ R1 g
theorem sw_and {e b : Expr} {rest : List Expr} {m n : R Bool} {pos : Pos} (h : ST X EX W e m) (h2 : SW X EX W (.BoolOp .And (b :: rest) pos) n) : SW X EX W (.BoolOp .And (e :: b :: rest) pos) (andB m n) := PW.weak (pw_and h h2) fun σ H Q h => andB_run h
theorem sw_or {e b : Expr} {rest : List Expr} {m n : R Bool} {pos : Pos} (h : ST X EX W e m) (h2 : SW X EX W (.BoolOp .Or (b :: rest) pos) n) : SW X EX W (.BoolOp .Or (e :: b :: rest) pos) (orB m n) := PW.weak (pw_or h h2) fun σ H Q h => orB_run h
theorem SW.st {e : Expr} {m : R Bool} (h : SW X EX W e m) : ST X EX W e m := PW.pt h
/-- .. as values: the first ones bools -/
def andV (a : R (D × Bool)) (b : R (D × Bool)) : R (D × Bool) := bnd (tst a) fun x => if x then b else ret (.bl false, false)
def orV (a : R (D × Bool)) (b : R (D × Bool)) : R (D × Bool) := bnd (tst a) fun x => if x then ret (.bl true, false) else b
def notV (a : R (D × Bool)) : R (D × Bool) := bnd (tst a) fun x => ret (.bl (!x), false)
/-- m as a test, then k -/
theorem tst_step {γ : Type} {m : R (D × Bool)} {k : Bool → R γ} {st : SS} {P : Addr → Prop} {r : Except Ex γ} {st' : SS} {σ : L2.St} {H : Hp} {Q1 : V → Hp → Prop} {K : PySem.W.Frag}
    (R0 : Rel K st σ H P) (hm : bnd (tst m) k st = some (r, st')) (er : ErrP K EX W st P σ H r st')
    (c : ∀ b st1 H1, Rel K st1 σ H1 P → Gr st st1 σ P P H H1 → k b st1 = some (r, st') → Q1 (.bl b) H1) : tR K EX W (okM K) m σ H Q1 := by
  have hm' : bnd m (fun p => bnd (match p.1 with | .bl b => ret b | _ => stuck) k) st = some (r, st') := by
    unfold tst bnd at hm
    unfold bnd
    revert hm
    cases m st with
    | none => exact fun z => z
    | some p =>
      obtain ⟨a, b⟩ := p
      cases a with
      | error x => exact fun z => z
      | ok a => exact fun z => z
  refine tR_plain R0 hm' er fun d f st1 v H1 r1 R1 g hk => ?_
  rcases bnd_some hk with ⟨x, e, _⟩ | ⟨b, st2, e, e2⟩
  · cases d <;> simp [stuck, ret] at e
  · cases d with
    | bl b' =>
      obtain ⟨h1, rfl⟩ := ret_some e
      cases h1
      cases r1
      exact c _ _ H1 R1 g e2
    | _ => simp [stuck] at e
theorem se_one {op : BoolOp} {e : Expr} {m : R (D × Bool)} {pos : Pos} (h : SE X EX W e m) : SE X EX W (.BoolOp op [e] pos) m := pe_one h
theorem se_and {a b : Expr} {rest : List Expr} {m n : R (D × Bool)} {pos : Pos} (ha : SE X EX W a m) (hb : SE X EX W (.BoolOp .And (b :: rest) pos) n) : SE X EX W (.BoolOp .And (a :: b :: rest) pos) (andV m n) := PE.weak (pe_and ha hb) fun σ H Q ⟨st, P, r, st', R0, hm, er, q⟩ => by
  refine tst_step R0 hm er fun b st1 H1 R1 g hk => ⟨b, rfl, ?_⟩
  cases b with
  | true =>
    rw [if_pos rfl] at hk ⊢
    exact ⟨st1, P, r, st', R1, hk, er.shift g, fun a ha v H' P' ok' R' g' => q a ha v H' P' ok' R' (g.trans g')⟩
  | false =>
    rw [if_neg Bool.false_ne_true] at hk ⊢
    obtain ⟨rfl, rfl⟩ := ret_some hk
    exact q _ rfl _ H1 P ⟨rfl, rfl⟩ R1 g
theorem se_or {a b : Expr} {rest : List Expr} {m n : R (D × Bool)} {pos : Pos} (ha : SE X EX W a m) (hb : SE X EX W (.BoolOp .Or (b :: rest) pos) n) : SE X EX W (.BoolOp .Or (a :: b :: rest) pos) (orV m n) := PE.weak (pe_or ha hb) fun σ H Q ⟨st, P, r, st', R0, hm, er, q⟩ => by
  refine tst_step R0 hm er fun b st1 H1 R1 g hk => ⟨b, rfl, ?_⟩
  cases b with
  | false =>
    rw [if_neg Bool.false_ne_true] at hk ⊢
    exact ⟨st1, P, r, st', R1, hk, er.shift g, fun a ha v H' P' ok' R' g' => q a ha v H' P' ok' R' (g.trans g')⟩
  | true =>
    rw [if_pos rfl] at hk ⊢
    obtain ⟨rfl, rfl⟩ := ret_some hk
    exact q _ rfl _ H1 P ⟨rfl, rfl⟩ R1 g
theorem se_not {a : Expr} {m : R (D × Bool)} {pos : Pos} (ha : SE X EX W a m) : SE X EX W (.UnaryOp .Not a pos) (notV m) := PE.weak (pe_not ha) fun σ H Q ⟨st, P, r, st', R0, hm, er, q⟩ => by
  refine tst_step R0 hm er fun b st1 H1 R1 g hk => ⟨b, rfl, ?_⟩
  obtain ⟨rfl, rfl⟩ := ret_some hk
  exact q _ rfl _ H1 P ⟨rfl, rfl⟩ R1 g
def ifE {α : Type} (c : R Bool) (a b : R α) : R α := bnd c fun x => if x then a else b
theorem se_if {c a b : Expr} {mc : R Bool} {ma mb : R (D × Bool)} {pos : Pos} (hc : ST X EX W c mc) (ha : SE X EX W a ma) (hb : SE X EX W b mb) : SE X EX W (.IfExp c a b pos) (ifE mc ma mb) := PE.weak (pe_ifExp hc ha hb) fun σ H Q ⟨st, P, r, st', R0, hm, er, q⟩ => by
  refine tR_step R0 hm er fun b st1 c H1 P1 ⟨hP, hc⟩ R1 g hk => ?_
  subst hP; subst hc
  cases c with
  | true =>
    rw [if_pos rfl] at hk ⊢
    exact ⟨st1, P1, r, st', R1, hk, er.shift g, fun a ha v H' P' ok' R' g' => q a ha v H' P' ok' R' (g.trans g')⟩
  | false =>
    rw [if_neg Bool.false_ne_true] at hk ⊢
    exact ⟨st1, P1, r, st', R1, hk, er.shift g, fun a ha v H' P' ok' R' g' => q a ha v H' P' ok' R' (g.trans g')⟩
end
end G
namespace G
open PySem PySem.Spec PyProof.Rows L2

/-! ### statements -/
inductive Fl where
  | nx | bk | ct | rt (a : D × Bool)
  deriving Inhabited
/-- from one state to a later one, the slots too; what is lent stays at its slot -/
structure GrS (st st' : SS) (σ σ' : L2.St) (P P' : Addr → Prop) (H H' : Hp) : Prop where
  same : Same (Sh st σ P H) (Sh st' σ' P' H')
  fr : ∀ (a : Addr), P a → H' a = H a
  ln : st'.length = st.length
  lk : ∀ (i : Nat) (d : D), st[i]? = some (.ow true d) → (∃ d', st'[i]? = some (.ow true d')) ∧ σ'[i]? = σ[i]?
theorem GrS.refl {st : SS} {σ : L2.St} {P : Addr → Prop} {H : Hp} : GrS st st σ σ P P H H := ⟨Same.refl _, fun _ _ => rfl, rfl, fun _ d h => ⟨⟨d, h⟩, rfl⟩⟩
theorem GrS.trans {st st1 st2 : SS} {σ σ1 σ2 : L2.St} {P P2 : Addr → Prop} {H H1 H2 : Hp} (x : GrS st st1 σ σ1 P P H H1) (y : GrS st1 st2 σ1 σ2 P P2 H1 H2) : GrS st st2 σ σ2 P P2 H H2 :=
  ⟨x.same.trans y.same, fun a h => (y.fr a h).trans (x.fr a h), y.ln.trans x.ln, fun i d h => by
    obtain ⟨⟨d1, h1⟩, e1⟩ := x.lk i d h
    obtain ⟨h2, e2⟩ := y.lk i d1 h1
    exact ⟨h2, e2.trans e1⟩⟩
theorem Gr.s {st st' : SS} {σ : L2.St} {P P' : Addr → Prop} {H H' : Hp} (x : Gr st st' σ P P' H H') : GrS st st' σ σ P P' H H' := ⟨x.same, x.fr, x.lk.1, fun i d h => ⟨x.lk.2 i d h, rfl⟩⟩

section
variable (K : PySem.W.Frag) (EX : EXT) (W : WX)
/-- an end that is wanted -/
def EndP (D : Ends) (st : SS) (P : Addr → Prop) (σ : L2.St) (H : Hp) (r : Except Ex Fl) (st' : SS) : Prop :=
  (r = .ok .nx → ∀ σ' H', Rel K st' σ' H' P → GrS st st' σ σ' P P H H' → D.nx σ' H') ∧
  (r = .ok .bk → ∀ σ' H', Rel K st' σ' H' P → GrS st st' σ σ' P P H H' → D.bk σ' H') ∧
  (r = .ok .ct → ∀ σ' H', Rel K st' σ' H' P → GrS st st' σ σ' P P H H' → D.ct σ' H') ∧
  (∀ a, r = .ok (.rt a) → ∀ v σ' H' P', okM K a st' σ' P P' v H' → Rel K st' σ' H' P' → GrS st st' σ σ' P P' H H' → D.rt v H') ∧
  (∀ x, r = .error x → ∀ cls od σ' H', EX x cls od H' → Rel K st' σ' H' P → GrS st st' σ σ' P P H H' → W cls od σ' H')
def tS (m : R Fl) : TS := fun D σ H => ∃ st P r st', Rel K st σ H P ∧ m st = some (r, st') ∧ EndP K EX W D st P σ H r st'
end
section
variable {K : PySem.W.Frag} {EX : EXT} {W : WX} {D : Ends} {st st1 st' : SS} {P : Addr → Prop} {σ σ1 : L2.St} {H H1 : Hp} {r : Except Ex Fl}
theorem EndP.shift (e : EndP K EX W D st P σ H r st') (g : GrS st st1 σ σ1 P P H H1) : EndP K EX W D st1 P σ1 H1 r st' :=
  ⟨fun h σ' H' a b => e.1 h σ' H' a (g.trans b), fun h σ' H' a b => e.2.1 h σ' H' a (g.trans b), fun h σ' H' a b => e.2.2.1 h σ' H' a (g.trans b),
    fun a h v σ' H' P' o c b => e.2.2.2.1 a h v σ' H' P' o c (g.trans b), fun x h cls od σ' H' o c b => e.2.2.2.2 x h cls od σ' H' o c (g.trans b)⟩
theorem EndP.err (e : EndP K EX W D st P σ H r st') : ErrP K EX W st P σ H r st' := fun x h cls od H' a b g => e.2.2.2.2 x h cls od σ H' a b g.s
theorem EndP.nx (e : EndP K EX W D st P σ H (.ok .nx) st') {σ' : L2.St} {H' : Hp} (a : Rel K st' σ' H' P) (g : GrS st st' σ σ' P P H H') : D.nx σ' H' := e.1 rfl σ' H' a g
theorem EndP.mk_nx (h : ∀ σ' H', Rel K st' σ' H' P → GrS st st' σ σ' P P H H' → D.nx σ' H') : EndP K EX W D st P σ H (.ok .nx) st' :=
  ⟨fun _ => h, fun z => (by cases z), fun z => (by cases z), fun _ z => (by cases z), fun _ z => (by cases z)⟩
theorem EndP.noerr (h : ∀ x, r ≠ .error x) (e : EndP K EX W D st P σ H r st') {EX' : EXT} {W' : WX} : EndP K EX' W' D st P σ H r st' :=
  ⟨e.1, e.2.1, e.2.2.1, e.2.2.2.1, fun x z => absurd z (h x)⟩
end
section
variable (X : Cx) (EX : EXT) (W : WX)
def SS1 (s : Stmt) (m : R Fl) : Prop := PS X s (tS X.K EX W m)
def SSs (s : List Stmt) (m : R Fl) : Prop := PSs X s (tS X.K EX W m)
end
theorem PS.weak {X : Cx} {s : Stmt} {t t' : TS} (h : PS X s t) (w : ∀ D σ H, t' D σ H → t D σ H) : PS X s t' := ⟨fun pins s σ H D I q => h.run pins s σ H D I (w D σ H q)⟩
theorem PSs.weak {X : Cx} {s : List Stmt} {t t' : TS} (h : PSs X s t) (w : ∀ D σ H, t' D σ H → t D σ H) : PSs X s t' := ⟨fun pins s σ H D I q => h.run pins s σ H D I (w D σ H q)⟩

def seq (a b : R Fl) : R Fl := fun st => match a st with
  | some (.ok .nx, st1) => b st1
  | x => x
section
variable {X : Cx} {EX : EXT} {W : WX}
theorem sss_nil : SSs X EX W [] (ret .nx) := PSs.weak pss_nil fun D σ H ⟨st, P, r, st', R0, hm, e⟩ => by
  obtain ⟨rfl, rfl⟩ := ret_some hm
  exact e.nx R0 GrS.refl
theorem sss_one {s : Stmt} {m : R Fl} (h : SS1 X EX W s m) : SSs X EX W [s] m := pss_one h
theorem seq_run {a b : R Fl} {D : Ends} {σ : L2.St} {H : Hp} (h : tS X.K EX W (seq a b) D σ H) : tSeq (tS X.K EX W a) (tS X.K EX W b) D σ H := by
  obtain ⟨st, P, r, st', R0, hm, e⟩ := h
  unfold seq at hm
  split at hm
  · rename_i st1 ea
    exact ⟨st, P, _, st1, R0, ea, EndP.mk_nx fun σ1 H1 R1 g => ⟨st1, P, r, st', R1, hm, e.shift g⟩⟩
  · rename_i hne
    refine ⟨st, P, r, st', R0, hm, fun z => ?_, e.2.1, e.2.2.1, e.2.2.2.1, e.2.2.2.2⟩
    subst z
    exact absurd hm (hne st')
theorem sss_cons {s : Stmt} {ss : List Stmt} {m n : R Fl} (h : SS1 X EX W s m) (t : SSs X EX W ss n) : SSs X EX W (s :: ss) (seq m n) := PSs.weak (pss_cons h t) fun D σ H h => seq_run h
theorem ss_pass {pos : Pos} : SS1 X EX W (.Pass pos) (ret .nx) := PS.weak ps_pass fun D σ H ⟨st, P, r, st', R0, hm, e⟩ => by
  obtain ⟨rfl, rfl⟩ := ret_some hm
  exact e.nx R0 GrS.refl
theorem ss_doc {x j pos pos'} : SS1 X EX W (.Expr (.Constant (.str x) j pos) pos') (ret .nx) := PS.weak ps_doc fun D σ H ⟨st, P, r, st', R0, hm, e⟩ => by
  obtain ⟨rfl, rfl⟩ := ret_some hm
  exact e.nx R0 GrS.refl
theorem ss_break {pos : Pos} : SS1 X EX W (.Break pos) (ret .bk) := PS.weak ps_break fun D σ H ⟨st, P, r, st', R0, hm, e⟩ => by
  obtain ⟨rfl, rfl⟩ := ret_some hm
  exact e.2.1 rfl σ H R0 GrS.refl
theorem ss_cont {pos : Pos} : SS1 X EX W (.Continue pos) (ret .ct) := PS.weak ps_continue fun D σ H ⟨st, P, r, st', R0, hm, e⟩ => by
  obtain ⟨rfl, rfl⟩ := ret_some hm
  exact e.2.2.1 rfl σ H R0 GrS.refl
def drop (m : R (D × Bool)) : R Fl := bnd m fun _ => ret .nx
theorem ss_expr {e : Expr} {m : R (D × Bool)} {pos : Pos} (he : SE X EX W e m) (hs : swapsWith e none pos.line X.env = pure false := by rfl) : SS1 X EX W (.Expr e pos) (drop m) := PS.weak (ps_expr he hs) fun D σ H ⟨st, P, r, st', R0, hm, en⟩ => by
  refine tR_plain R0 hm en.err fun d f st1 v H1 r1 R1 g hk => ?_
  obtain ⟨rfl, rfl⟩ := ret_some hk
  exact en.nx R1 g.s
def retM (m : R (D × Bool)) : R Fl := bnd m fun a => ret (.rt a)
theorem ss_ret {e : Expr} {m : R (D × Bool)} {pos : Pos} (he : SE X EX W e m) : SS1 X EX W (.Return (some e) pos) (retM m) := PS.weak (ps_ret he) fun D σ H ⟨st, P, r, st', R0, hm, en⟩ => by
  refine tR_step R0 hm en.err fun a st1 v H1 P1 ok R1 g hk => ?_
  obtain ⟨rfl, rfl⟩ := ret_some hk
  exact en.2.2.2.1 a rfl v σ H1 P1 ok R1 g.s
/-- return of an own object of the def: it goes to the caller -/
def mv (i : Nat) : R (D × Bool) := fun st => match st[i]? with
  | some (.v d) => some (.ok (d, false), st)
  | some (.ow false d) => some (.ok (d, true), st.set i .un)
  | _ => none
theorem Rel.move {K : PySem.W.Frag} {st : SS} {σ : L2.St} {H : Hp} {P : Addr → Prop} {i : Nat} {d : D} (R0 : Rel K st σ H P) (e : st[i]? = some (.ow false d)) :
    ∃ a o, σ[i]? = some (some (.ref a)) ∧ ¬ P a ∧ Rel K (st.set i .un) σ H (fun y => P y ∨ y = a) ∧ Gr st (st.set i .un) σ P (fun y => P y ∨ y = a) H H ∧ H a = some o ∧ RepO K (Sh (st.set i .un) σ (fun y => P y ∨ y = a) H) d o := by
  obtain ⟨a, o, h1, h2, h3⟩ := R0.own i _ _ e
  have hi : i < st.length := (List.getElem?_eq_some_iff.mp e).1
  have oi : OwAt st σ i a := ⟨⟨_, _, e⟩, h1⟩
  have back : ∀ j b, OwAt (st.set i .un) σ j b → OwAt st σ j b ∧ j ≠ i := fun j b ⟨⟨l, d', e1⟩, e2⟩ => by
    by_cases hj : i = j
    · subst hj; rw [List.getElem?_set_self hi] at e1; cases e1
    · rw [List.getElem?_set_ne hj] at e1
      exact ⟨⟨⟨l, d', e1⟩, e2⟩, fun z => hj z.symm⟩
  have fwd : ∀ j b, OwAt st σ j b → j ≠ i → OwAt (st.set i .un) σ j b := fun j b ⟨⟨l, d', e1⟩, e2⟩ hj => ⟨⟨l, d', by rw [List.getElem?_set_ne (Ne.symm hj)]; exact e1⟩, e2⟩
  have iff_ : ∀ b, Hd st σ P b ↔ Hd (st.set i .un) σ (fun y => P y ∨ y = a) b := fun b => by
    constructor
    · rintro (⟨j, z⟩ | z)
      · by_cases hj : j = i
        · subst hj
          obtain ⟨_, z2⟩ := z
          rw [h1] at z2; cases z2
          exact .inr (.inr rfl)
        · exact .inl ⟨j, fwd j b z hj⟩
      · exact .inr (.inl z)
    · rintro (⟨j, z⟩ | z | z)
      · exact .inl ⟨j, (back j b z).1⟩
      · exact .inr z
      · subst z; exact .inl ⟨i, oi⟩
  have he : Sh st σ P H = Sh (st.set i .un) σ (fun y => P y ∨ y = a) H := hid_congr iff_
  refine ⟨a, o, h1, R0.sepP a ⟨i, oi⟩, ⟨by rw [List.length_set]; exact R0.len, fun j d' ej => ?_, fun j l d' ej => ?_, fun j k b h h' => R0.sep j k b (back j b h).1 (back k b h').1, fun b ⟨j, h⟩ z => ?_, fun b z => ?_⟩, ⟨by rw [he]; exact Same.refl _, fun _ _ => rfl, by simp, fun j d' ej => ?_⟩, h2, by rw [← he]; exact h3⟩
  · by_cases hj : i = j
    · subst hj; rw [List.getElem?_set_self hi] at ej; cases ej
    · rw [List.getElem?_set_ne hj] at ej
      rw [← he]; exact R0.val j d' ej
  · by_cases hj : i = j
    · subst hj; rw [List.getElem?_set_self hi] at ej; cases ej
    · rw [List.getElem?_set_ne hj] at ej
      rw [← he]; exact R0.own j l d' ej
  · obtain ⟨z1, z2⟩ := back j b h
    rcases z with z | z
    · exact R0.sepP b ⟨j, z1⟩ z
    · subst z; exact z2 (R0.sep j i b z1 oi)
  · rcases z with z | z
    · exact R0.trk b z
    · subst z; rw [h2]; exact fun z => nomatch z
  · by_cases hj : i = j
    · subst hj; rw [e] at ej; cases ej
    · exact ⟨d', by rw [List.getElem?_set_ne hj]; exact ej⟩
theorem se_mv {i : Nat} {x : Str} {pos : Pos} (hN : X.N[i]? = some x) (hv : Vis X.env.scope x) (hd : (x == ("__debug__" : Str)) = false := by decide) (hcd : (x == ("__classdict__" : Str)) = false := by decide) : SE X EX W (.Name x pos) (mv i) := by
  refine PE.weak (pe_var hN hv hd hcd) fun σ H Q ⟨st, P, r, st', R0, hm, er, q⟩ => ?_
  cases e : st[i]? with
  | none => simp [mv, e] at hm
  | some sv =>
    cases sv with
    | un => simp [mv, e] at hm
    | v d =>
      simp [mv, e] at hm
      obtain ⟨rfl, rfl⟩ := hm
      obtain ⟨v, h1, h2⟩ := R0.val i d e
      exact ⟨v, h1, q _ rfl v H P ⟨rfl, h2⟩ R0 Gr.refl⟩
    | ow l d =>
      cases l with
      | true => simp [mv, e] at hm
      | false =>
        simp [mv, e] at hm
        obtain ⟨rfl, rfl⟩ := hm
        obtain ⟨a, o, h1, hP, R1, g, h2, h3⟩ := R0.move e
        exact ⟨.ref a, h1, q _ rfl _ H _ ⟨a, o, rfl, hP, rfl, h2, h3⟩ R1 g⟩
def retN : R Fl := ret (.rt (.non, false))
theorem ss_retN {pos : Pos} : SS1 X EX W (.Return none pos) retN := PS.weak ps_retN fun D σ H ⟨st, P, r, st', R0, hm, e⟩ => by
  obtain ⟨rfl, rfl⟩ := ret_some hm
  exact e.2.2.2.1 _ rfl .non σ H P ⟨rfl, by simp only [Rep]⟩ R0 GrS.refl
theorem ifS_run {c : R Bool} {a b : R Fl} {D : Ends} {σ : L2.St} {H : Hp} (h : tS X.K EX W (ifE c a b) D σ H) : tIfS (tR X.K EX W okB c) (tS X.K EX W a) (tS X.K EX W b) D σ H := by
  obtain ⟨st, P, r, st', R0, hm, en⟩ := h
  refine tR_step R0 hm en.err fun x st1 c H1 P1 ⟨hP, hc⟩ R1 g hk => ?_
  subst hP; subst hc
  cases c with
  | true =>
    rw [if_pos rfl] at hk ⊢
    exact ⟨st1, P1, r, st', R1, hk, en.shift g.s⟩
  | false =>
    rw [if_neg Bool.false_ne_true] at hk ⊢
    exact ⟨st1, P1, r, st', R1, hk, en.shift g.s⟩
theorem ss_if {c : Expr} {sa sb : List Stmt} {mc : R Bool} {ma mb : R Fl} {pos : Pos} (hc : ST X EX W c mc) (ha : SSs X EX W sa ma) (hb : SSs X EX W sb mb) : SS1 X EX W (.If c sa sb pos) (ifE mc ma mb) :=
  PS.weak (ps_if hc ha hb) fun D σ H h => ifS_run h

/-! ### storing -/
def put (i : Nat) (a : D × Bool) : R Unit := fun st => match st[i]? with
  | none => none
  | some (.ow true _) => none
  | some _ => some (.ok (), st.set i (if a.2 then .ow false a.1 else .v a.1))
theorem put_some {i : Nat} {a : D × Bool} {st : SS} {r : Except Ex Unit} {st' : SS} (h : put i a st = some (r, st')) : r = .ok () ∧ (∃ sv, st[i]? = some sv ∧ ∀ d, sv ≠ .ow true d) ∧ st' = st.set i (if a.2 then .ow false a.1 else .v a.1) := by
  unfold put at h
  split at h
  · cases h
  · cases h
  · rename_i sv e1 e2
    cases h
    exact ⟨rfl, ⟨sv, e2, fun d z => e1 d (by rw [z])⟩, rfl⟩
/-- the store in the relation -/
theorem Rel.put {K : PySem.W.Frag} {st st' : SS} {σ : L2.St} {H : Hp} {P P' : Addr → Prop} {i : Nat} {a : D × Bool} {v : V} {r : Except Ex Unit} (R0 : Rel K st σ H P') (ok : okM K a st σ P P' v H) (h : put i a st = some (r, st')) :
    Rel K st' (σ.set i (some v)) H P ∧ Same (Sh st σ P' H) (Sh st' (σ.set i (some v)) P H) ∧ st'.length = st.length ∧
      ∀ (j : Nat) (d : D), st[j]? = some (.ow true d) → (∃ d', st'[j]? = some (.ow true d')) ∧ (σ.set i (some v))[j]? = σ[j]? := by
  obtain ⟨rfl, ⟨sv, e0, hl⟩, rfl⟩ := put_some h
  have hi : i < st.length := (List.getElem?_eq_some_iff.mp e0).1
  have hσ : i < σ.length := by rw [← R0.len]; exact hi
  obtain ⟨d, f⟩ := a
  cases f with
  | false =>
    obtain ⟨rfl, rp⟩ := ok
    simp only [Bool.false_eq_true, if_false]
    have back : ∀ j b, OwAt (st.set i (.v d)) (σ.set i (some v)) j b → OwAt st σ j b := fun j b ⟨⟨l, d', e1⟩, e2⟩ => by
      by_cases hj : i = j
      · subst hj; rw [List.getElem?_set_self hi] at e1; cases e1
      · rw [List.getElem?_set_ne hj] at e1 e2
        exact ⟨⟨l, d', e1⟩, e2⟩
    have s : Same (Sh st σ P' H) (Sh (st.set i (.v d)) (σ.set i (some v)) P' H) := hid_mono (fun _ _ _ e => e) fun b o _ z => by
      rcases z with ⟨j, z⟩ | z
      · exact .inl ⟨j, back j b z⟩
      · exact .inr z
    refine ⟨⟨by simp [R0.len], fun j d' ej => ?_, fun j l d' ej => ?_, fun j k b h h' => R0.sep j k b (back j b h) (back k b h'), fun b ⟨j, h⟩ => R0.sepP b ⟨j, back j b h⟩, R0.trk⟩, s, by simp, fun j d' ej => ?_⟩
    · by_cases hj : i = j
      · subst hj
        rw [List.getElem?_set_self hi] at ej; cases ej
        exact ⟨v, List.getElem?_set_self hσ, rp.mono s⟩
      · rw [List.getElem?_set_ne hj] at ej
        obtain ⟨u, q1, q2⟩ := R0.val j d' ej
        exact ⟨u, by rw [List.getElem?_set_ne hj]; exact q1, q2.mono s⟩
    · by_cases hj : i = j
      · subst hj; rw [List.getElem?_set_self hi] at ej; cases ej
      · rw [List.getElem?_set_ne hj] at ej
        obtain ⟨b, o', q1, q2, q3⟩ := R0.own j l d' ej
        exact ⟨b, o', by rw [List.getElem?_set_ne hj]; exact q1, q2, q3.mono s⟩
    · have hj : i ≠ j := fun z => by subst z; rw [e0] at ej; cases ej; exact hl _ rfl
      exact ⟨⟨d', by rw [List.getElem?_set_ne hj]; exact ej⟩, by rw [List.getElem?_set_ne hj]⟩
  | true =>
    obtain ⟨x, o, rfl, hP, rfl, hx, ro⟩ := ok
    simp only [if_true]
    have at_ : ∀ j b, OwAt (st.set i (.ow false d)) (σ.set i (some (.ref x))) j b → (j = i ∧ b = x) ∨ (j ≠ i ∧ OwAt st σ j b) := fun j b ⟨⟨l, d', e1⟩, e2⟩ => by
      by_cases hj : i = j
      · subst hj
        rw [List.getElem?_set_self hσ] at e2
        cases e2
        exact .inl ⟨rfl, rfl⟩
      · rw [List.getElem?_set_ne hj] at e1 e2
        exact .inr ⟨fun z => hj z.symm, ⟨⟨l, d', e1⟩, e2⟩⟩
    have s : Same (Sh st σ (fun y => P y ∨ y = x) H) (Sh (st.set i (.ow false d)) (σ.set i (some (.ref x))) P H) := hid_mono (fun _ _ _ e => e) fun b o _ z => by
      rcases z with ⟨j, z⟩ | z
      · rcases at_ j b z with ⟨_, rfl⟩ | ⟨_, z⟩
        · exact .inr (.inr rfl)
        · exact .inl ⟨j, z⟩
      · exact .inr (.inl z)
    refine ⟨⟨by simp [R0.len], fun j d' ej => ?_, fun j l d' ej => ?_, fun j k b h h' => ?_, fun b ⟨j, h⟩ z => ?_, fun b z => R0.trk b (.inl z)⟩, s, by simp, fun j d' ej => ?_⟩
    · by_cases hj : i = j
      · subst hj
        rw [List.getElem?_set_self hi] at ej; cases ej
      · rw [List.getElem?_set_ne hj] at ej
        obtain ⟨u, q1, q2⟩ := R0.val j d' ej
        exact ⟨u, by rw [List.getElem?_set_ne hj]; exact q1, q2.mono s⟩
    · by_cases hj : i = j
      · subst hj
        rw [List.getElem?_set_self hi] at ej; cases ej
        exact ⟨x, o, List.getElem?_set_self hσ, hx, ro.mono s⟩
      · rw [List.getElem?_set_ne hj] at ej
        obtain ⟨b, o', q1, q2, q3⟩ := R0.own j l d' ej
        exact ⟨b, o', by rw [List.getElem?_set_ne hj]; exact q1, q2, q3.mono s⟩
    · rcases at_ j b h with ⟨rfl, rfl⟩ | ⟨hj, h1⟩
      · rcases at_ k b h' with ⟨rfl, _⟩ | ⟨_, h2⟩
        · rfl
        · exact absurd (.inr rfl) (R0.sepP b ⟨k, h2⟩)
      · rcases at_ k b h' with ⟨rfl, rfl⟩ | ⟨_, h2⟩
        · exact absurd (.inr rfl) (R0.sepP b ⟨j, h1⟩)
        · exact R0.sep j k b h1 h2
    · rcases at_ j b h with ⟨_, rfl⟩ | ⟨_, h1⟩
      · exact hP z
      · exact R0.sepP b ⟨j, h1⟩ (.inl z)
    · have hj : i ≠ j := fun z => by subst z; rw [e0] at ej; cases ej; exact hl _ rfl
      exact ⟨⟨d', by rw [List.getElem?_set_ne hj]; exact ej⟩, by rw [List.getElem?_set_ne hj]⟩
theorem GrS.put {K : PySem.W.Frag} {st0 st st' : SS} {σ0 σ : L2.St} {H0 H : Hp} {P P' : Addr → Prop} {i : Nat} {a : D × Bool} {v : V} {r : Except Ex Unit} (g : GrS st0 st σ0 σ P P' H0 H) (R0 : Rel K st σ H P') (ok : okM K a st σ P P' v H) (h : G.put i a st = some (r, st')) :
    Rel K st' (σ.set i (some v)) H P ∧ GrS st0 st' σ0 (σ.set i (some v)) P P H0 H := by
  obtain ⟨h1, h2, h3, h4⟩ := R0.put ok h
  exact ⟨h1, g.same.trans h2, g.fr, h3.trans g.ln, fun j d e => by
    obtain ⟨⟨d1, e1⟩, e2⟩ := g.lk j d e
    obtain ⟨q1, q2⟩ := h4 j d1 e1
    exact ⟨q1, q2.trans e2⟩⟩
def setM (i : Nat) (m : R (D × Bool)) : R Fl := bnd m fun a => bnd (put i a) fun _ => ret .nx
theorem set_run {i : Nat} {m : R (D × Bool)} {D : Ends} {σ : L2.St} {H : Hp} (h : tS X.K EX W (setM i m) D σ H) : tAsg (tR X.K EX W (okM X.K) m) (gName i) D σ H := by
  obtain ⟨st, P, r, st', R0, hm, en⟩ := h
  refine tR_step R0 hm en.err fun a st1 v H1 P1 ok R1 g hk => ?_
  rcases bnd_some hk with ⟨x, e, _⟩ | ⟨_, st2, e, hk2⟩
  · exact absurd (put_some e).1 (by simp)
  · obtain ⟨rfl, rfl⟩ := ret_some hk2
    obtain ⟨R2, g2⟩ := g.s.put R1 ok e
    exact en.nx R2 g2
theorem ss_set {i : Nat} {x : Str} {e : Expr} {m : R (D × Bool)} {pos pos' : Pos} (hN : X.N.Nodup) (hi : X.N[i]? = some x) (hx : Loc X.env.scope x) (he : SE X EX W e m) (hs : swapsWith e (some (.Name x pos')) pos.line X.env = pure false := by rfl)
    (hf : X.fn x = true ∨ X.env.scope.names.lookup x = some .local := by first | exact .inl rfl | exact .inr rfl | assumption) : SS1 X EX W (.Assign [.Name x pos'] e pos) (setM i m) :=
  PS.weak (ps_set hN hi hx he hs hf) fun D σ H h => set_run h
end
end G
namespace G
open PySem PySem.Spec PyProof.Rows L2

/-! ### targets of plain values -/
abbrev TM := D → SS → Option SS
abbrev TMs := List D → SS → Option SS
def tgN (i : Nat) : TM := fun d st => match st[i]? with
  | none => none
  | some (.ow true _) => none
  | some _ => some (st.set i (.v d))
def tgNil : TMs := fun ds st => match ds with
  | [] => some st
  | _ => none
def tgCons (t : TM) (r : TMs) : TMs := fun ds st => match ds with
  | d :: ds => match t d st with
    | some st1 => r ds st1
    | none => none
  | [] => none
def tgT (n : Nat) (r : TMs) : TM := fun d st => match d with
  | .tup ds => if ds.length = n then r ds st else none
  | _ => none
/-- only the slots at is change -/
def Only (is : List Nat) (st st' : SS) (σ σ' : L2.St) : Prop := σ'.length = σ.length ∧ ∀ j, j ∉ is → σ'[j]? = σ[j]? ∧ st'[j]? = st[j]?
section
variable (K : PySem.W.Frag) (is : List Nat)
def tG (t : TM) : TG := fun v σ H Q => ∃ st P d st', Rel K st σ H P ∧ Rep K (Sh st σ P H) d v ∧ t d st = some st' ∧ ∀ σ', Rel K st' σ' H P → GrS st st' σ σ' P P H H → Only is st st' σ σ' → Q σ' H
def tGs (t : TMs) : TGs := fun vs σ H Q => ∃ st P ds st', Rel K st σ H P ∧ Reps K (Sh st σ P H) ds vs ∧ t ds st = some st' ∧ ∀ σ', Rel K st' σ' H P → GrS st st' σ σ' P P H H → Only is st st' σ σ' → Q σ' H
def SG (X : Cx) (is : List Nat) (tg : Expr) (t : TM) : Prop := PG X tg (tG X.K is t)
def SGs (X : Cx) (is : List Nat) (tg : List Expr) (t : TMs) : Prop := PGs X tg (tGs X.K is t)
end
theorem PG.weak {X : Cx} {e : Expr} {t t' : TG} (h : PG X e t) (w : ∀ v σ H Q, t' v σ H Q → t v σ H Q) : PG X e t' := ⟨fun pins s σ H v u Q I r q => h.run pins s σ H v u Q I r (w v σ H Q q)⟩
theorem PGs.weak {X : Cx} {e : List Expr} {t t' : TGs} (h : PGs X e t) (w : ∀ v σ H Q, t' v σ H Q → t v σ H Q) : PGs X e t' := ⟨fun pins s σ H v u Q I r q => h.run pins s σ H v u Q I r (w v σ H Q q)⟩
theorem tgN_put {i : Nat} {d : D} {st st' : SS} (h : tgN i d st = some st') : put i (d, false) st = some (.ok (), st') := by
  unfold tgN at h
  unfold put
  revert h
  cases st[i]? with
  | none => exact fun z => by cases z
  | some sv =>
    cases sv with
    | un => intro h; cases h; rfl
    | v d => intro h; cases h; rfl
    | ow l d =>
      cases l with
      | true => exact fun z => by cases z
      | false => intro h; cases h; rfl
section
variable {X : Cx} {is : List Nat} {pos : Pos}
theorem sg_name {i : Nat} {x : Str} (hN : X.N.Nodup) (hi : X.N[i]? = some x) (hx : Loc X.env.scope x) (hm : i ∈ is) (hf : X.fn x = true ∨ X.env.scope.names.lookup x = some .local := by first | exact .inl rfl | exact .inr rfl | assumption) : SG X is (.Name x pos) (tgN i) :=
  PG.weak (pg_name hN hi hx hf) fun v σ H Q ⟨st, P, d, st', R0, rp, h, q⟩ => by
    have hp := tgN_put h
    obtain ⟨R1, g⟩ := GrS.refl.put (P := P) R0 (a := (d, false)) ⟨rfl, rp⟩ hp
    refine q _ R1 g ⟨by simp, fun j hj => ?_⟩
    have hji : i ≠ j := fun z => hj (z ▸ hm)
    obtain ⟨_, _, rfl⟩ := put_some hp
    exact ⟨by rw [List.getElem?_set_ne hji], by simp [List.getElem?_set_ne hji]⟩
theorem sgs_nil : SGs X is [] tgNil := PGs.weak pgs_nil fun v σ H Q ⟨st, P, ds, st', R0, rp, h, q⟩ => by
  cases ds with
  | nil =>
    cases h
    exact ⟨Reps.nil_iff.mp rp, q _ R0 GrS.refl ⟨rfl, fun _ _ => ⟨rfl, rfl⟩⟩⟩
  | cons _ _ => cases h
theorem Only.trans {is : List Nat} {st st1 st2 : SS} {σ σ1 σ2 : L2.St} (a : Only is st st1 σ σ1) (b : Only is st1 st2 σ1 σ2) : Only is st st2 σ σ2 :=
  ⟨b.1.trans a.1, fun j hj => ⟨(b.2 j hj).1.trans (a.2 j hj).1, (b.2 j hj).2.trans (a.2 j hj).2⟩⟩
theorem sgs_cons {e : Expr} {es : List Expr} {t : TM} {r : TMs} (h1 : SG X is e t) (h2 : SGs X is es r) (hs : (assignEach (e :: es) X.env).map (·.2) = assign e X.env :: (assignEach es X.env).map (·.2) := by rfl) : SGs X is (e :: es) (tgCons t r) :=
  PGs.weak (pgs_cons h1 h2 hs) fun v σ H Q ⟨st, P, ds, st', R0, rp, h, q⟩ => by
    cases ds with
    | nil => cases h
    | cons d ds =>
      obtain ⟨v, vr, rfl, r1, r2⟩ := Reps.cons_iff.mp rp
      unfold tgCons at h
      dsimp only at h
      cases e1 : t d st with
      | none => rw [e1] at h; cases h
      | some st1 =>
        rw [e1] at h
        exact ⟨v, vr, rfl, st, P, d, st1, R0, r1, e1, fun σ1 R1 g1 o1 => ⟨st1, P, ds, st', R1, r2.mono g1.same, h, fun σ2 R2 g2 o2 => q σ2 R2 (g1.trans g2) (o1.trans o2)⟩⟩
theorem sg_tup {es : List Expr} {k : Nat} {t : TMs} {n : Nat} (hc : X.calm = true) (h : SGs X is es t) (hn : (assignEach es X.env).length = n := by rfl) (hst : (assignEach es X.env).findIdx? (·.1) = none := by rfl) : SG X is (.Tuple es k pos) (tgT n t) :=
  PG.weak (pg_tup hc h hn hst) fun v σ H Q ⟨st, P, d, st', R0, rp, h, q⟩ => by
    unfold tgT at h
    split at h
    · rename_i ds
      split at h
      · rename_i hl
        simp only [Rep] at rp
        obtain ⟨a, vs, rfl, h1, h2⟩ := rp
        exact ⟨a, vs, rfl, sameT hid_same h1, h2.length.trans hl, st, P, ds, st', R0, h2, h, q⟩
      · cases h
    · cases h
end

/-! ### what is walked -/
structure ItOk (K : PySem.W.Frag) (S : Hp) (J : It) (ds : List D) : Prop where
  go : ∀ (i : Nat) (H : Hp), i < ds.length → Same S H → J.go i H
  stop : ∀ (H : Hp), Same S H → J.stop ds.length H
  yld : ∀ (i : Nat) (d : D) (H : Hp) (v : V) (H' : Hp), ds[i]? = some d → Same S H → J.yld i H v H' → Same H H' ∧ ∀ O : Addr → Prop, (∀ a, O a → H a ≠ none) → Same S (hid O H) → Rep K (hid O H') d v
section
variable (K : PySem.W.Frag) (EX : EXT) (W : WX)
def tI (m : R (List D)) : TI := fun σ H Q => ∃ st P r st', Rel K st σ H P ∧ m st = some (r, st') ∧ ErrP K EX W st P σ H r st' ∧
  ∀ ds, r = .ok ds → ∀ J H', ItOk K (Sh st' σ P H') J ds → Rel K st' σ H' P → Gr st st' σ P P H H' → Q J H'
end
def SI (X : Cx) (EX : EXT) (W : WX) (tg e : Expr) (m : R (List D)) : Prop := PI X tg e (tI X.K EX W m)
section
variable {X : Cx} {EX : EXT} {W : WX} {K : PySem.W.Frag}
theorem itOk_list {S : Hp} {a : Addr} {vs : List V} {ds : List D} (h : SqL K S a vs) (r : Reps K S ds vs) : ItOk K S (Itl K a) ds where
  go := fun i H hi s => ⟨vs, vs[i]'(by rw [r.length]; exact hi), s.seq h, by simp [r.length, hi]⟩
  stop := fun H s => ⟨vs, s.seq h, by rw [r.length]; exact Nat.le_refl _⟩
  yld := fun i d H v H' e s y => by
    obtain ⟨rfl, q⟩ := y
    refine ⟨Same.refl _, fun O _ s2 => ?_⟩
    obtain ⟨u, h1, h2⟩ := r.get e
    have := q vs (s.seq h)
    rw [h1] at this; cases this
    exact h2.mono s2
theorem itOk_tup {S : Hp} {a : Addr} {vs : List V} {ds : List D} (h : SqT K S a vs) (r : Reps K S ds vs) : ItOk K S (Itt K a) ds where
  go := fun i H hi s => ⟨vs, vs[i]'(by rw [r.length]; exact hi), sameT s h, by simp [r.length, hi]⟩
  stop := fun H s => ⟨vs, sameT s h, by rw [r.length]; exact Nat.le_refl _⟩
  yld := fun i d H v H' e s y => by
    obtain ⟨rfl, q⟩ := y
    refine ⟨Same.refl _, fun O _ s2 => ?_⟩
    obtain ⟨u, h1, h2⟩ := r.get e
    have := q vs (sameT s h)
    rw [h1] at this; cases this
    exact h2.mono s2
def signs (x : Str) : List D := x.cps.toList.map fun c => .str ⟨#[c]⟩
theorem itOk_str {S : Hp} {x : Str} : ItOk K S (Its x) (signs x) where
  go := fun i H hi s => (show i < x.cps.size by simpa [signs] using hi)
  stop := fun H s => by simp [signs, Its]
  yld := fun i d H v H' e s y => by
    obtain ⟨rfl, c, h1, rfl⟩ := y
    refine ⟨Same.refl _, fun O _ s2 => ?_⟩
    simp [signs, h1] at e
    subst e
    simp only [Rep]
def intsF (lo : Int) (n : Nat) : List D := (List.range n).map fun (i : Nat) => .int (lo + (i : Int))
theorem itOk_range {S : Hp} {lo : Int} {n : Nat} : ItOk K S (Itr lo n) (intsF lo n) where
  go := fun i H hi s => by simpa [intsF, Itr] using hi
  stop := fun H s => by simp [intsF, Itr]
  yld := fun i d H v H' e s y => by
    obtain ⟨rfl, rfl⟩ := y
    refine ⟨Same.refl _, fun O _ s2 => ?_⟩
    simp [intsF, List.getElem?_eq_some_iff] at e
    obtain ⟨w, ⟨_, rfl⟩, rfl⟩ := e
    simp only [Rep]
def seqOf : D → Option (List D)
  | .lst ds => some ds
  | .tup ds => some ds
  | .str x => some (signs x)
  | _ => none
def srcV (m : R D) : R (List D) := bnd m fun d => lift (seqOf d)
theorem si_seq {tg e : Expr} {m : R D} (h : SD X EX W e m) : SI X EX W tg e (srcV m) := by
  refine ⟨fun pins s σ H Q I q => ?_⟩
  obtain ⟨st, P, r, st', R0, hm, er, q⟩ := q
  rcases bnd_some hm with ⟨x, e1, rfl⟩ | ⟨d, st1, e1, e2⟩
  · refine (pi_list h).run pins s σ H Q I ?_
    exact ⟨st, P, .error x, st', R0, e1, fun y hy => er y (by cases hy; rfl), fun a ha => (by cases ha)⟩
  · obtain ⟨ds, e3, rfl, rfl⟩ := lift_some e2
    have go : ∀ {Q1 : V → Hp → Prop}, (∀ v H1, Rep X.K (Sh st' σ P H1) d v → Rel X.K st' σ H1 P → Gr st st' σ P P H H1 → Q1 v H1) → tR X.K EX W (okD X.K) m σ H Q1 := fun {Q1} c =>
      ⟨st, P, .ok d, st', R0, e1, fun y hy => (by cases hy), fun a ha v H1 P1 ⟨hP, rp⟩ R1 g => (by cases ha; subst hP; exact c v H1 rp R1 g)⟩
    cases d with
    | lst xs =>
      cases e3
      refine (pi_list h).run pins s σ H Q I (go fun v H1 rp R1 g => ?_)
      simp only [Rep] at rp
      obtain ⟨a, vs, rfl, h1, h2⟩ := rp
      exact ⟨a, rfl, ⟨vs, hid_same.seq h1⟩, q _ rfl _ H1 (itOk_list h1 h2) R1 g⟩
    | tup xs =>
      cases e3
      refine (pi_tup h).run pins s σ H Q I (go fun v H1 rp R1 g => ?_)
      simp only [Rep] at rp
      obtain ⟨a, vs, rfl, h1, h2⟩ := rp
      exact ⟨a, rfl, ⟨vs, sameT hid_same h1⟩, q _ rfl _ H1 (itOk_tup h1 h2) R1 g⟩
    | str x =>
      cases e3
      refine (pi_str h).run pins s σ H Q I (go fun v H1 rp R1 g => ?_)
      simp only [Rep] at rp
      subst rp
      exact ⟨x, rfl, q _ rfl _ H1 itOk_str R1 g⟩
    | _ => cases e3
def big : Int := 2 ^ 62
def rng1 : List D → Option (List D)
  | [.int j] => if -big ≤ j ∧ j < big then some (intsF 0 j.toNat) else none
  | _ => none
def rng2 : List D → Option (List D)
  | [.int i, .int j] => if -big ≤ i ∧ i < big ∧ -big ≤ j ∧ j < big then some (intsF i (j - i).toNat) else none
  | _ => none
def srcA (f : List D → Option (List D)) (m : R (List D)) : R (List D) := bnd m fun ds => lift (f ds)
theorem srcA_run {f : List D → Option (List D)} {m : R (List D)} {σ : L2.St} {H : Hp} {Q : It → Hp → Prop} {Q1 : List V → Hp → Prop} (h : tI X.K EX W (srcA f m) σ H Q)
    (c : ∀ (as ds : List D) (vs : List V) (H1 : Hp) (O : Addr → Prop), f as = some ds → Reps X.K (hid O H1) as vs → (∀ J, ItOk X.K (hid O H1) J ds → Q J H1) → Q1 vs H1) : tR X.K EX W (okL X.K) m σ H Q1 := by
  obtain ⟨st, P, r, st', R0, hm, er, q⟩ := h
  refine tR_step R0 hm er fun as st1 vs H1 P1 ⟨hP, ok⟩ R1 g hk => ?_
  subst hP
  obtain ⟨ds, e3, rfl, rfl⟩ := lift_some hk
  exact c as ds vs H1 _ e3 ok fun J hJ => q ds rfl J H1 hJ R1 g
theorem rep_int {S : Hp} {i : Int} {v : V} (h : Rep K S (.int i) v) : v = .int i := by simpa only [Rep] using h
theorem si_range1 {tg a : Expr} {p pos : Pos} {m : R (List D)} (hg : Gl X "range") (hm : X.mg "range" = none) (ha : SL X EX W [a] m) (hs : starEach [a] X.env = [(false, eval a X.env)] := by rfl) : SI X EX W tg (.Call (.Name "range" p) [a] [] pos) (srcA rng1 m) := by
  refine ⟨fun pins s σ H Q I q => (pi_range1 hg hm ha hs).run pins s σ H Q I ?_⟩
  refine srcA_run q fun as ds vs H1 O e ok q => ?_
  unfold rng1 at e
  split at e
  · rename_i j
    split at e
    · rename_i hb
      cases e
      obtain ⟨v, r, rfl, h1, h2⟩ := Reps.cons_iff.mp ok
      cases rep_int h1
      cases Reps.nil_iff.mp h2
      exact ⟨j, rfl, hb.1, hb.2, q _ itOk_range⟩
    · cases e
  · cases e
theorem si_range2 {tg a b : Expr} {p pos : Pos} {m : R (List D)} (hg : Gl X "range") (hm : X.mg "range" = none) (ha : SL X EX W [a, b] m) (hs : starEach [a, b] X.env = [(false, eval a X.env), (false, eval b X.env)] := by rfl) (hs2 : starEach [b] X.env = [(false, eval b X.env)] := by rfl) :
    SI X EX W tg (.Call (.Name "range" p) [a, b] [] pos) (srcA rng2 m) := by
  refine ⟨fun pins s σ H Q I q => (pi_range2 hg hm ha hs hs2).run pins s σ H Q I ?_⟩
  refine srcA_run q fun as ds vs H1 O e ok q => ?_
  unfold rng2 at e
  split at e
  · rename_i i j
    split at e
    · rename_i hb
      cases e
      obtain ⟨v, r, rfl, h1, h2⟩ := Reps.cons_iff.mp ok
      cases rep_int h1
      obtain ⟨v, r, rfl, h3, h4⟩ := Reps.cons_iff.mp h2
      cases rep_int h3
      cases Reps.nil_iff.mp h4
      exact ⟨i, j, rfl, hb, q _ itOk_range⟩
    · cases e
  · cases e

/-! ### for -/
def forGo (t : TM) (body : R Fl) : List D → R Fl
  | [] => ret .nx
  | d :: ds => fun st => match t d st with
    | none => none
    | some st1 => match body st1 with
      | none => none
      | some (.error x, st2) => some (.error x, st2)
      | some (.ok .nx, st2) => forGo t body ds st2
      | some (.ok .ct, st2) => forGo t body ds st2
      | some (.ok .bk, st2) => some (.ok .nx, st2)
      | some (.ok (.rt a), st2) => some (.ok (.rt a), st2)
def forM (src : R (List D)) (t : TM) (body : R Fl) : R Fl := bnd src fun ds => forGo t body ds
theorem drop_cons {ds : List D} {i : Nat} (hi : i < ds.length) : ds.drop i = ds[i] :: ds.drop (i + 1) := List.drop_eq_getElem_cons hi
theorem for_run {src : R (List D)} {t : TM} {is : List Nat} {body : R Fl} {D : Ends} {σ : L2.St} {H : Hp} (h : tS X.K EX W (forM src t body) D σ H) : tFor (tI X.K EX W src) (tG X.K is t) (tS X.K EX W body) D σ H := by
  obtain ⟨st, P, r, st', R0, hm, en⟩ := h
  rcases bnd_some hm with ⟨x, e1, rfl⟩ | ⟨ds, st1, e1, e2⟩
  · exact ⟨st, P, .error x, st', R0, e1, fun y hy => en.err y (by cases hy; rfl), fun a ha => (by cases ha)⟩
  refine ⟨st, P, .ok ds, st1, R0, e1, fun y hy => (by cases hy), fun ds' hds J H1 it R1 g1 => ?_⟩
  cases hds
  replace en := en.shift g1.s
  refine ⟨fun i m σ' H' => m = ds.length - i ∧ i ≤ ds.length ∧ ∃ sti, Rel X.K sti σ' H' P ∧ GrS st1 sti σ σ' P P H1 H' ∧ forGo t body (ds.drop i) sti = some (r, st'), ⟨ds.length, by simp, Nat.zero_le _, st1, R1, GrS.refl, e2⟩, ?_⟩
  rintro i m σ' H' ⟨rfl, hi, sti, Ri, gi, ei⟩
  have sH : Same (Sh st1 σ P H1) H' := gi.same.trans hid_same
  by_cases hlt : i < ds.length
  · rw [drop_cons hlt] at ei
    refine .inr ⟨it.go i H' hlt sH, fun σ2 H2 => ∃ st2, Rel X.K st2 σ2 H2 P ∧ GrS st1 st2 σ σ2 P P H1 H2 ∧ forGo t body (ds.drop (i + 1)) st2 = some (r, st'), fun σ2 H2 ⟨st2, a, b, c⟩ => ⟨_, by omega, rfl, hlt, st2, a, b, c⟩, fun x H2 y => ?_⟩
    obtain ⟨s2, rp⟩ := it.yld i ds[i] H' x H2 (List.getElem?_eq_getElem hlt) sH y
    unfold forGo at ei
    cases et : t ds[i] sti with
    | none => rw [et] at ei; cases ei
    | some st2 =>
      rw [et] at ei
      dsimp only at ei
      have gg : GrS st1 sti σ σ' P P H1 H2 := gi.trans (Gr.grow Ri s2).s
      refine ⟨sti, P, ds[i], st2, Ri.grow s2, rp _ (fun a ha => Ri.hdT ha) gi.same, et, fun σ2 R2 g2 _ => ?_⟩
      cases eb : body st2 with
      | none => rw [eb] at ei; cases ei
      | some p =>
        obtain ⟨rb, st3⟩ := p
        rw [eb] at ei
        refine ⟨st2, P, rb, st3, R2, eb, ?_⟩
        have g3 := gg.trans g2
        cases rb with
        | error x =>
          cases ei
          have e4 := en.shift g3
          exact ⟨fun z => (by cases z), fun z => (by cases z), fun z => (by cases z), fun _ z => (by cases z), fun y hy => e4.2.2.2.2 y hy⟩
        | ok f =>
          cases f with
          | nx => exact EndP.mk_nx fun σ4 H4 R4 g4 => ⟨st3, R4, g3.trans g4, ei⟩
          | ct => exact ⟨fun z => (by cases z), fun z => (by cases z), fun _ σ4 H4 R4 g4 => ⟨st3, R4, g3.trans g4, ei⟩, fun _ z => (by cases z), fun _ z => (by cases z)⟩
          | bk =>
            cases ei
            exact ⟨fun z => (by cases z), fun _ σ4 H4 R4 g4 => (en.shift g3).1 rfl σ4 H4 R4 g4, fun z => (by cases z), fun _ z => (by cases z), fun _ z => (by cases z)⟩
          | rt a =>
            cases ei
            exact ⟨fun z => (by cases z), fun z => (by cases z), fun z => (by cases z), fun b hb => (en.shift g3).2.2.2.1 b hb, fun _ z => (by cases z)⟩
  · have e : i = ds.length := by omega
    subst e
    rw [List.drop_length] at ei
    obtain ⟨rfl, rfl⟩ := ret_some ei
    exact .inl ⟨it.stop H' sH, en.1 rfl σ' H' Ri gi⟩
theorem ss_for {tg iter : Expr} {body : List Stmt} {src : R (List D)} {t : TM} {is : List Nat} {mb : R Fl} {pos : Pos} (hp : PassesOwn (model X.prog X.w) X.A X.env X.xe) (hc : X.calm = true) (hi : SI X EX W tg iter src) (hg : SG X is tg t) (hb : SSs X EX W body mb)
    (hs : ∀ x, foldedSetIterable iter X.env x = pure x := by intro _; rfl) : SS1 X EX W (.For tg iter body [] pos) (forM src t mb) := PS.weak (ps_for hp hc hi hg hb hs) fun D σ H h => for_run h

/-! ### while -/
def whGo (c : R Bool) (body : R Fl) : Nat → R Fl
  | 0 => stuck
  | n + 1 => bnd c fun b => if b then fun st => match body st with
      | none => none
      | some (.error x, st2) => some (.error x, st2)
      | some (.ok .nx, st2) => whGo c body n st2
      | some (.ok .ct, st2) => whGo c body n st2
      | some (.ok .bk, st2) => some (.ok .nx, st2)
      | some (.ok (.rt a), st2) => some (.ok (.rt a), st2)
    else ret .nx
theorem wh_run {c : R Bool} {body : R Fl} {n : Nat} {D : Ends} {σ : L2.St} {H : Hp} (h : tS X.K EX W (whGo c body n) D σ H) : tWhile (tR X.K EX W okB c) (tS X.K EX W body) D σ H := by
  obtain ⟨st, P, r, st', R0, hm, en⟩ := h
  refine ⟨fun m σ' H' => ∃ sti, Rel X.K sti σ' H' P ∧ GrS st sti σ σ' P P H H' ∧ whGo c body m sti = some (r, st'), ⟨n, st, R0, GrS.refl, hm⟩, ?_⟩
  rintro m σ' H' ⟨sti, Ri, gi, ei⟩
  have en1 := en.shift gi
  cases m with
  | zero => cases ei
  | succ m =>
    refine tR_step Ri ei en1.err fun x st1 c H1 P1 ⟨hP, hc⟩ R1 g hk => ?_
    subst hP; subst hc
    have en2 := en1.shift g.s
    cases c with
    | false =>
      rw [if_neg Bool.false_ne_true] at hk ⊢
      obtain ⟨rfl, rfl⟩ := ret_some hk
      exact en2.1 rfl σ' H1 R1 GrS.refl
    | true =>
      rw [if_pos rfl] at hk ⊢
      refine ⟨fun σ2 H2 => ∃ st2, Rel X.K st2 σ2 H2 P1 ∧ GrS st st2 σ σ2 P1 P1 H H2 ∧ whGo _ body m st2 = some (r, st'), fun σ2 H2 q => ⟨m, Nat.lt_succ_self _, q⟩, ?_⟩
      cases eb : body st1 with
      | none => rw [eb] at hk; cases hk
      | some p =>
        obtain ⟨rb, st3⟩ := p
        rw [eb] at hk
        refine ⟨st1, P1, rb, st3, R1, eb, ?_⟩
        have g3 := gi.trans g.s
        cases rb with
        | error x =>
          cases hk
          exact ⟨fun z => (by cases z), fun z => (by cases z), fun z => (by cases z), fun _ z => (by cases z), fun y hy => en2.2.2.2.2 y hy⟩
        | ok f =>
          cases f with
          | nx => exact EndP.mk_nx fun σ4 H4 R4 g4 => ⟨st3, R4, g3.trans g4, hk⟩
          | ct => exact ⟨fun z => (by cases z), fun z => (by cases z), fun _ σ4 H4 R4 g4 => ⟨st3, R4, g3.trans g4, hk⟩, fun _ z => (by cases z), fun _ z => (by cases z)⟩
          | bk =>
            cases hk
            exact ⟨fun z => (by cases z), fun _ σ4 H4 R4 g4 => en2.1 rfl σ4 H4 R4 g4, fun z => (by cases z), fun _ z => (by cases z), fun _ z => (by cases z)⟩
          | rt a =>
            cases hk
            exact ⟨fun z => (by cases z), fun z => (by cases z), fun z => (by cases z), fun b hb => en2.2.2.2.1 b hb, fun _ z => (by cases z)⟩
theorem ss_while {c : Expr} {body : List Stmt} {mc : R Bool} {mb : R Fl} {n : Nat} {pos : Pos} (hp : PassesOwn (model X.prog X.w) X.A X.env X.xe) (hc : ST X EX W c mc) (hb : SSs X EX W body mb) : SS1 X EX W (.While c body [] pos) (whGo mc mb n) :=
  PS.weak (ps_while hp hc hb) fun D σ H h => wh_run h
end
end G
namespace G
open PySem PySem.Spec PyProof.Rows L2

/-! ### defs: what they promise -/
def isOw : SV → Bool
  | .ow _ _ => true
  | _ => false
def lentAll (svs : SS) : Bool := svs.all fun s => match s with
  | .ow false _ => false
  | _ => true
def spF (K : PySem.W.Frag) (EX : EXT) (n : Nat) (F : R (D × Bool)) : Sp := fun vs H Q E => vs.length = n ∧ ∃ svs P r svs', Rel K svs (vs.map some) H P ∧ lentAll svs = true ∧ F svs = some (r, svs') ∧
  (∀ a, r = .ok a → ∀ v H' P', okM K a svs' (vs.map some) P P' v H' → Rel K svs' (vs.map some) H' P' → Gr svs svs' (vs.map some) P P' H H' → Q v H') ∧
  (∀ x, r = .error x → ∀ cls od H', EX x cls od H' → Rel K svs' (vs.map some) H' P → Gr svs svs' (vs.map some) P P H H' → E cls od H')
/-- what of the arguments' slots comes back -/
def back : SS → SS → SS
  | sv :: svs, s' :: st' => (match sv with
    | .ow _ _ => s'
    | _ => sv) :: back svs st'
  | svs, _ => svs
def runB (n : Nat) (body : R Fl) : R (D × Bool) := fun svs => match body (svs ++ List.replicate (n - svs.length) .un) with
  | some (.ok (.rt a), st') => some (.ok a, back svs st')
  | some (.ok .nx, st') => some (.ok (.non, false), back svs st')
  | some (.error x, st') => some (.error x, back svs st')
  | _ => none
theorem back_get : ∀ (svs st' : SS) (i : Nat) (sv : SV), svs.length ≤ st'.length → svs[i]? = some sv → (back svs st')[i]? = if isOw sv then st'[i]? else some sv
  | [], _, i, sv, _, e => by simp at e
  | s :: svs, [], i, sv, h, e => by simp at h
  | s :: svs, t :: st', 0, sv, h, e => by
    simp at e; subst e
    cases s <;> simp [back, isOw]
  | s :: svs, t :: st', i + 1, sv, h, e => by
    have := back_get svs st' i sv (by simpa using h) (by simpa using e)
    simpa [back] using this
theorem back_length : ∀ (svs st' : SS), (back svs st').length = svs.length
  | [], _ => by simp [back]
  | s :: svs, [] => by simp [back]
  | s :: svs, t :: st' => by simp [back, back_length svs st']
theorem lentAll_get {svs : SS} (h : lentAll svs = true) {i : Nat} {l : Bool} {d : D} (e : svs[i]? = some (.ow l d)) : l = true := by
  unfold lentAll at h
  have := List.all_eq_true.mp h _ (List.mem_of_getElem? e)
  cases l with
  | true => rfl
  | false => simp at this
section
variable {K : PySem.W.Frag} {svs : SS} {τ : L2.St} {H : Hp} {P : Addr → Prop} {n : Nat}
theorem ext_get {i : Nat} {sv : SV} (h : (svs ++ List.replicate n SV.un)[i]? = some sv) (hn : sv ≠ .un) : svs[i]? = some sv := by
  by_cases hi : i < svs.length
  · rw [List.getElem?_append_left hi] at h; exact h
  · rw [List.getElem?_append_right (by omega), List.getElem?_replicate] at h
    split at h
    · cases h; exact absurd rfl hn
    · cases h
theorem ext_ow {i : Nat} {a : Addr} (hl : svs.length = τ.length) : OwAt (svs ++ List.replicate n SV.un) (τ ++ List.replicate n none) i a ↔ OwAt svs τ i a := by
  constructor
  · rintro ⟨⟨l, d, h⟩, h2⟩
    have h3 := ext_get h (by simp)
    have hi : i < svs.length := (List.getElem?_eq_some_iff.mp h3).1
    rw [List.getElem?_append_left (by omega)] at h2
    exact ⟨⟨l, d, h3⟩, h2⟩
  · rintro ⟨⟨l, d, h⟩, h2⟩
    have hi : i < svs.length := (List.getElem?_eq_some_iff.mp h).1
    exact ⟨⟨l, d, by rw [List.getElem?_append_left hi]; exact h⟩, by rw [List.getElem?_append_left (by omega)]; exact h2⟩
theorem ext_sh (hl : svs.length = τ.length) : Sh (svs ++ List.replicate n SV.un) (τ ++ List.replicate n none) P H = Sh svs τ P H := hid_congr fun a => by
  constructor
  · rintro (⟨i, h⟩ | h)
    · exact .inl ⟨i, (ext_ow hl).mp h⟩
    · exact .inr h
  · rintro (⟨i, h⟩ | h)
    · exact .inl ⟨i, (ext_ow hl).mpr h⟩
    · exact .inr h
/-- the entry of a def: its other slots unset -/
theorem Rel.enter (R0 : Rel K svs τ H P) : Rel K (svs ++ List.replicate n SV.un) (τ ++ List.replicate n none) H P where
  len := by simp [R0.len]
  val := fun i d e => by
    have h := ext_get e (by simp)
    obtain ⟨v, h1, h2⟩ := R0.val i d h
    exact ⟨v, by rw [List.getElem?_append_left (List.getElem?_eq_some_iff.mp h1).1]; exact h1, by rw [ext_sh R0.len]; exact h2⟩
  own := fun i l d e => by
    have h := ext_get e (by simp)
    obtain ⟨a, o, h1, h2, h3⟩ := R0.own i l d h
    exact ⟨a, o, by rw [List.getElem?_append_left (List.getElem?_eq_some_iff.mp h1).1]; exact h1, h2, by rw [ext_sh R0.len]; exact h3⟩
  sep := fun i j a h h' => R0.sep i j a ((ext_ow R0.len).mp h) ((ext_ow R0.len).mp h')
  sepP := fun a ⟨i, h⟩ => R0.sepP a ⟨i, (ext_ow R0.len).mp h⟩
  trk := R0.trk
/-- the end of a def: its other slots gone -/
theorem Rel.leave {st' : SS} {σ' : L2.St} {H' : Hp} {P' : Addr → Prop} (R0 : Rel K svs τ H P) (hla : lentAll svs = true) (R1 : Rel K st' σ' H' P') (g : GrS (svs ++ List.replicate n SV.un) st' (τ ++ List.replicate n none) σ' P P' H H') :
    Rel K (back svs st') τ H' P' ∧ Gr svs (back svs st') τ P P' H H' ∧ Same (Sh st' σ' P' H') (Sh (back svs st') τ P' H') := by
  have hlen : svs.length ≤ st'.length := by rw [g.ln]; simp
  have bk := fun i sv e => back_get svs st' i sv hlen e
  have lent : ∀ (i : Nat) (d : D), svs[i]? = some (.ow true d) → (∃ d', st'[i]? = some (.ow true d')) ∧ σ'[i]? = τ[i]? := fun i d e => by
    have hi : i < svs.length := (List.getElem?_eq_some_iff.mp e).1
    obtain ⟨h1, h2⟩ := g.lk i d (by rw [List.getElem?_append_left hi]; exact e)
    rw [List.getElem?_append_left (by rw [← R0.len]; exact hi)] at h2
    exact ⟨h1, h2⟩
  have cases_ : ∀ (i : Nat) (sv : SV), (back svs st')[i]? = some sv → ∃ s0, svs[i]? = some s0 ∧ ((isOw s0 = true ∧ st'[i]? = some sv) ∨ (isOw s0 = false ∧ sv = s0)) := fun i sv e => by
    have hi : i < svs.length := by rw [← back_length svs st']; exact (List.getElem?_eq_some_iff.mp e).1
    have e0 : svs[i]? = some svs[i] := List.getElem?_eq_getElem hi
    have := bk i _ e0
    rw [e] at this
    refine ⟨_, e0, ?_⟩
    cases hs : isOw svs[i] with
    | true => rw [hs, if_pos rfl] at this; exact .inl ⟨rfl, this.symm⟩
    | false => rw [hs, if_neg Bool.false_ne_true] at this; exact .inr ⟨rfl, Option.some.inj this⟩
  have ow : ∀ (i : Nat) (a : Addr), OwAt (back svs st') τ i a → OwAt st' σ' i a ∧ ∃ d, svs[i]? = some (.ow true d) := fun i a ⟨⟨l, d, e⟩, e2⟩ => by
    obtain ⟨s0, h0, h | h⟩ := cases_ i _ e
    · cases s0 with
      | ow l0 d0 =>
        cases lentAll_get hla h0
        exact ⟨⟨⟨l, d, h.2⟩, (lent i d0 h0).2.trans e2⟩, d0, h0⟩
      | _ => simp [isOw] at h
    · rw [← h.2] at h; simp [isOw] at h
  have s2 : Same (Sh st' σ' P' H') (Sh (back svs st') τ P' H') := hid_mono (fun _ _ _ e => e) fun a o _ z => by
    rcases z with ⟨i, z⟩ | z
    · exact .inl ⟨i, (ow i a z).1⟩
    · exact .inr z
  have s1 : Same (Sh svs τ P H) (Sh (back svs st') τ P' H') := by
    have := g.same
    rw [ext_sh R0.len] at this
    exact this.trans s2
  refine ⟨⟨by rw [back_length]; exact R0.len, fun i d e => ?_, fun i l d e => ?_, fun i j a h h' => R1.sep i j a (ow i a h).1 (ow j a h').1, fun a ⟨i, h⟩ => R1.sepP a ⟨i, (ow i a h).1⟩, R1.trk⟩, ⟨s1, g.fr, back_length _ _, fun i d e => ?_⟩, s2⟩
  · obtain ⟨s0, h0, h | h⟩ := cases_ i _ e
    · cases s0 with
      | ow l0 d0 =>
        cases lentAll_get hla h0
        obtain ⟨⟨d', e'⟩, _⟩ := lent i d0 h0
        rw [h.2] at e'; cases e'
      | _ => simp [isOw] at h
    · rw [← h.2] at h0
      obtain ⟨v, q1, q2⟩ := R0.val i d h0
      exact ⟨v, q1, q2.mono s1⟩
  · obtain ⟨s0, h0, h | h⟩ := cases_ i _ e
    · cases s0 with
      | ow l0 d0 =>
        cases lentAll_get hla h0
        obtain ⟨_, e2⟩ := lent i d0 h0
        obtain ⟨a, o, q1, q2, q3⟩ := R1.own i l d h.2
        exact ⟨a, o, e2.symm.trans q1, q2, q3.mono s2⟩
      | _ => simp [isOw] at h
    · rw [← h.2] at h; simp [isOw] at h
  · obtain ⟨⟨d', e'⟩, _⟩ := lent i d e
    exact ⟨d', by rw [bk i _ e]; exact e'⟩
end
theorem okM.mono {K : PySem.W.Frag} {a : D × Bool} {st st2 : SS} {σ σ2 : L2.St} {P P' : Addr → Prop} {v : V} {H : Hp} (h : okM K a st σ P P' v H) (s : Same (Sh st σ P' H) (Sh st2 σ2 P' H)) : okM K a st2 σ2 P P' v H := by
  obtain ⟨d, f⟩ := a
  cases f with
  | false =>
    obtain ⟨rfl, r⟩ := h
    exact ⟨rfl, r.mono s⟩
  | true =>
    obtain ⟨x, o, e1, e2, e3, e4, e5⟩ := h
    exact ⟨x, o, e1, e2, e3, e4, e5.mono s⟩
section
variable {P : Program} {w : World} {K : PySem.W.Frag} {mg : Str → Option Value} {base : Heap} {EX : EXT}
/-- A DEF KEEPS ITS PROMISE: its body runs as the reading says -/
theorem fn_body {x qual : Str} {st : Stmt} {f : Addr} {fd : FuncData} {N ps : List Str} {k : Nat} {body : R Fl} {FF : R (D × Bool)} (F : Fun K x qual st f fd) (S : FnScope N ps (defScope st))
    (hF : ∀ svs r svs', svs.length = ps.length → FF svs = some (r, svs') → runB N.length body svs = some (r, svs'))
    (hb : ∀ (cdv : Value) (A : Around) (outer : List Env) (s : Shared) (H : Hp) (E : XK), Room k (A.deeper (envOfC qual (defScope st) s.heap.objs.size f cdv)) →
      SSs (cxOf (L2.CX P w) P w K mg base N qual (defScope st) f cdv A outer s H E) EX (fun cls od _ H' => E cls od H') (defBody st) body) : FnOk P w K mg base (L2.CX P w) (k + 1) f fd ps (spF K EX ps.length FF) := by
  refine F.okX S (fun vs H Q E h => h.1) fun cdv A outer s H vs Q E hr h => ?_
  obtain ⟨hl, svs, P0, r, svs', R0, hla, e, q1, q2⟩ := h
  refine ⟨_, hb cdv A outer s H E hr, ?_⟩
  have hsl : svs.length = vs.length := by rw [R0.len, List.length_map]
  have hst : L2.start N vs = vs.map some ++ List.replicate (N.length - svs.length) none := by unfold L2.start; rw [hsl]
  have e2 := hF svs r svs' (by rw [hsl, hl]) e
  unfold runB at e2
  cases eb : body (svs ++ List.replicate (N.length - svs.length) .un) with
  | none => rw [eb] at e2; cases e2
  | some p =>
    obtain ⟨rb, st'⟩ := p
    rw [eb] at e2
    rw [hst]
    refine ⟨_, P0, rb, st', R0.enter, eb, ?_⟩
    cases rb with
    | error y =>
      cases e2
      refine ⟨fun z => (by cases z), fun z => (by cases z), fun z => (by cases z), fun _ z => (by cases z), fun z hz cls od σ' H' hx R1 g => ?_⟩
      cases hz
      obtain ⟨R2, g2, _⟩ := R0.leave hla R1 g
      exact q2 _ rfl cls od H' hx R2 g2
    | ok fl =>
      cases fl with
      | nx =>
        cases e2
        refine EndP.mk_nx fun σ' H' R1 g => ?_
        obtain ⟨R2, g2, _⟩ := R0.leave hla R1 g
        exact q1 _ rfl .non H' P0 ⟨rfl, by simp only [Rep]⟩ R2 g2
      | rt a =>
        cases e2
        refine ⟨fun z => (by cases z), fun z => (by cases z), fun z => (by cases z), fun b hb v σ' H' P' ok R1 g => ?_, fun _ z => (by cases z)⟩
        cases hb
        obtain ⟨R2, g2, s2⟩ := R0.leave hla R1 g
        exact q1 _ rfl v H' P' (ok.mono s2) R2 g2
      | bk => cases e2
      | ct => cases e2
end

/-! ### calls -/
def argOf (st : SS) : PV → Option SV
  | .d d => some (.v d)
  | .pk i => match st[i]? with
    | some (.v d) => some (.v d)
    | some (.ow _ d) => some (.ow true d)
    | _ => none
def argsOf (st : SS) : List PV → Option SS
  | [] => some []
  | p :: ps => match argOf st p, argsOf st ps with
    | some s, some ss => some (s :: ss)
    | _, _ => none
/-- the slots that are lent -/
def pks (st : SS) : List PV → List Nat
  | [] => []
  | .d _ :: ps => pks st ps
  | .pk i :: ps => match st[i]? with
    | some (.ow _ _) => i :: pks st ps
    | _ => pks st ps
def nodupN : List Nat → Bool
  | [] => true
  | x :: xs => !xs.contains x && nodupN xs
def putBack : List PV → SS → SS → Option SS
  | [], [], acc => some acc
  | .d _ :: ps, s :: ss, acc => if isOw s then none else putBack ps ss acc
  | .pk i :: ps, s :: ss, acc => match acc[i]?, s with
    | some (.ow l _), .ow true d => putBack ps ss (acc.set i (.ow l d))
    | some (.v _), s => if isOw s then none else putBack ps ss acc
    | _, _ => none
  | _, _, _ => none
def useF (F : R (D × Bool)) (ps : List PV) : R (D × Bool) := fun st => match argsOf st ps with
  | none => none
  | some svs => if nodupN (pks st ps) then match F svs with
      | none => none
      | some (r, svs') => match putBack ps svs' st with
        | none => none
        | some st' => some (r, st')
    else none
def callM (F : R (D × Bool)) (m : R (List PV)) : R (D × Bool) := bnd m fun ps => useF F ps
theorem argsOf_get {st : SS} : ∀ {ps : List PV} {svs : SS}, argsOf st ps = some svs → svs.length = ps.length ∧ ∀ (k : Nat) (p : PV), ps[k]? = some p → ∃ s, argOf st p = some s ∧ svs[k]? = some s
  | [], _, h => by cases h; exact ⟨rfl, fun k p e => by simp at e⟩
  | p :: ps, svs, h => by
    unfold argsOf at h
    split at h
    · rename_i s ss h1 h2
      cases h
      obtain ⟨l, g⟩ := argsOf_get h2
      refine ⟨by simp [l], fun k q e => ?_⟩
      cases k with
      | zero => simp at e; subst e; exact ⟨s, h1, rfl⟩
      | succ k => simpa using g k q (by simpa using e)
    · cases h
theorem okPVs_get {K : PySem.W.Frag} : ∀ {ps : List PV} {st : SS} {σ : L2.St} {P : Addr → Prop} {vs : List V} {H : Hp}, okPVs K ps st σ P vs H → vs.length = ps.length ∧ ∀ (k : Nat) (p : PV), ps[k]? = some p → ∃ v, vs[k]? = some v ∧ okPV K p st σ P v H
  | [], _, _, _, _, _, h => by cases h; exact ⟨rfl, fun k p e => by simp at e⟩
  | p :: ps, _, _, _, _, _, h => by
    obtain ⟨v, r, rfl, h1, h2⟩ := h
    obtain ⟨l, g⟩ := okPVs_get h2
    refine ⟨by simp [l], fun k q e => ?_⟩
    cases k with
    | zero => simp at e; subst e; exact ⟨v, rfl, h1⟩
    | succ k => simpa using g k q (by simpa using e)
theorem nodupN_nodup : ∀ {xs : List Nat}, nodupN xs = true → xs.Nodup
  | [], _ => List.nodup_nil
  | x :: xs, h => by
    simp only [nodupN, Bool.and_eq_true, Bool.not_eq_true', List.contains_eq_mem, decide_eq_false_iff_not] at h
    exact List.nodup_cons.mpr ⟨h.1, nodupN_nodup h.2⟩
/-- i is lent by the k-th argument -/
def LentBy (st : SS) (ps : List PV) (k i : Nat) : Prop := ps[k]? = some (.pk i) ∧ ∃ l d, st[i]? = some (.ow l d)
theorem pks_mem {st : SS} : ∀ {ps : List PV} {k i : Nat}, LentBy st ps k i → i ∈ pks st ps
  | [], k, i, h => by simp [LentBy] at h
  | p :: ps, 0, i, ⟨h, l, d, e⟩ => by
    simp at h; subst h
    simp [pks, e]
  | p :: ps, k + 1, i, ⟨h, e⟩ => by
    have := pks_mem (st := st) (ps := ps) (k := k) (i := i) ⟨by simpa using h, e⟩
    cases p with
    | d _ => simpa [pks] using this
    | pk j =>
      unfold pks
      split
      · exact List.mem_cons_of_mem _ this
      · exact this
theorem pks_inj {st : SS} : ∀ {ps : List PV} {k k' i : Nat}, (pks st ps).Nodup → LentBy st ps k i → LentBy st ps k' i → k = k'
  | [], k, _, i, _, h, _ => by simp [LentBy] at h
  | p :: ps, 0, 0, i, _, _, _ => rfl
  | p :: ps, 0, k' + 1, i, nd, ⟨h, l, d, e⟩, ⟨h', e'⟩ => by
    simp at h; subst h
    simp [pks, e] at nd
    exact absurd (pks_mem ⟨by simpa using h', e'⟩) nd.1
  | p :: ps, k + 1, 0, i, nd, ⟨h', e'⟩, ⟨h, l, d, e⟩ => by
    simp at h; subst h
    simp [pks, e] at nd
    exact absurd (pks_mem ⟨by simpa using h', e'⟩) nd.1
  | p :: ps, k + 1, k' + 1, i, nd, ⟨h, e⟩, ⟨h', e'⟩ => by
    have nd' : (pks st ps).Nodup := by
      cases p with
      | d _ => simpa [pks] using nd
      | pk j =>
        unfold pks at nd
        split at nd
        · exact (List.nodup_cons.mp nd).2
        · exact nd
    exact congrArg (· + 1) (pks_inj (k := k) (k' := k') (i := i) nd' ⟨by simpa using h, e⟩ ⟨by simpa using h', e'⟩)
/-- what putBack leaves -/
theorem putBack_get : ∀ {ps : List PV} {ss acc st' : SS}, putBack ps ss acc = some st' → (pks acc ps).Nodup →
    st'.length = acc.length ∧ ss.length = ps.length ∧ (∀ (j : Nat), (∀ k, ¬ LentBy acc ps k j) → st'[j]? = acc[j]?) ∧
    (∀ (k i : Nat) (l : Bool) (d : D), ps[k]? = some (.pk i) → acc[i]? = some (.ow l d) → ∃ d', ss[k]? = some (.ow true d') ∧ st'[i]? = some (.ow l d')) ∧
    ∀ (k : Nat) (s : SV), ss[k]? = some s → (∀ i, ¬ LentBy acc ps k i) → isOw s = false
  | [], [], acc, st', h, _ => by
    cases h
    exact ⟨rfl, rfl, fun _ _ => rfl, fun k i l d e => by simp at e, fun k s e => by simp at e⟩
  | .d d0 :: ps, s :: ss, acc, st', h, nd => by
    unfold putBack at h
    split at h
    · cases h
    · rename_i hs
      obtain ⟨l1, l2, g1, g2, g3⟩ := putBack_get h (by simpa [pks] using nd)
      refine ⟨l1, by simp [l2], fun j hj => g1 j fun k hk => hj (k + 1) ⟨by simpa using hk.1, hk.2⟩, fun k i l d e e2 => ?_, fun k s' e hk => ?_⟩
      · cases k with
        | zero => simp at e
        | succ k => simpa using g2 k i l d (by simpa using e) e2
      · cases k with
        | zero => simp at e; subst e; simpa using hs
        | succ k => exact g3 k s' (by simpa using e) fun i hi => hk i ⟨by simpa using hi.1, hi.2⟩
  | .pk i0 :: ps, s :: ss, acc, st', h, nd => by
    unfold putBack at h
    split at h
    · rename_i l0 d0 d1 e0
      have nd0 := nd
      simp only [pks, e0] at nd
      obtain ⟨ni, nd'⟩ := List.nodup_cons.mp nd
      have hi0 : i0 < acc.length := (List.getElem?_eq_some_iff.mp e0).1
      have lb : ∀ k j, LentBy (acc.set i0 (.ow l0 d1)) ps k j ↔ LentBy acc ps k j := fun k j => by
        unfold LentBy
        by_cases hj : i0 = j
        · subst hj
          rw [List.getElem?_set_self hi0, e0]
          simp
        · rw [List.getElem?_set_ne hj]
      have pe : pks (acc.set i0 (.ow l0 d1)) ps = pks acc ps := by
        have : ∀ qs : List PV, pks (acc.set i0 (.ow l0 d1)) qs = pks acc qs := by
          intro qs
          induction qs with
          | nil => rfl
          | cons q qs ih =>
            cases q with
            | d _ => simpa [pks] using ih
            | pk j =>
              unfold pks
              rw [ih]
              by_cases hj : i0 = j
              · subst hj
                rw [List.getElem?_set_self hi0, e0]
              · rw [List.getElem?_set_ne hj]
        exact this ps
      obtain ⟨l1, l2, g1, g2, g3⟩ := putBack_get h (by rw [pe]; exact nd')
      have n0 : ∀ k, ¬ LentBy acc ps k i0 := fun k hk => ni (pks_mem hk)
      refine ⟨by rw [l1, List.length_set], by simp [l2], fun j hj => ?_, fun k i l d e e2 => ?_, fun k s' e hk => ?_⟩
      · have hji : i0 ≠ j := fun z => hj 0 ⟨by rw [z]; rfl, l0, d0, by rw [← z]; exact e0⟩
        rw [g1 j fun k hk => hj (k + 1) ⟨by simpa using ((lb k j).mp hk).1, ((lb k j).mp hk).2⟩, List.getElem?_set_ne hji]
      · cases k with
        | zero =>
          simp at e; subst e
          rw [e0] at e2; cases e2
          refine ⟨d1, rfl, ?_⟩
          rw [g1 i0 fun k hk => n0 k ((lb k i0).mp hk), List.getElem?_set_self hi0]
        | succ k =>
          have hne : i0 ≠ i := fun z => by
            subst z
            exact n0 k ⟨by simpa using e, l, d, e2⟩
          simpa using g2 k i l d (by simpa using e) (by rw [List.getElem?_set_ne hne]; exact e2)
      · cases k with
        | zero =>
          exact absurd ⟨rfl, l0, d0, e0⟩ (hk i0)
        | succ k => exact g3 k s' (by simpa using e) fun i hi => hk i ⟨by simpa using ((lb k i).mp hi).1, ((lb k i).mp hi).2⟩
    · rename_i d0 s e0
      split at h
      · cases h
      · rename_i hs
        have pe : pks acc (.pk i0 :: ps) = pks acc ps := by simp [pks, e0]
        rw [pe] at nd
        obtain ⟨l1, l2, g1, g2, g3⟩ := putBack_get h nd
        refine ⟨l1, by simp [l2], fun j hj => g1 j fun k hk => hj (k + 1) ⟨by simpa using hk.1, hk.2⟩, fun k i l d e e2 => ?_, fun k s' e hk => ?_⟩
        · cases k with
          | zero => simp at e; subst e; rw [e0] at e2; cases e2
          | succ k => simpa using g2 k i l d (by simpa using e) e2
        · cases k with
          | zero => simp at e; subst e; simpa using hs
          | succ k => exact g3 k s' (by simpa using e) fun i hi => hk i ⟨by simpa using hi.1, hi.2⟩
    · cases h
  | .d _ :: _, [], _, _, h, _ => by simp [putBack] at h
  | .pk _ :: _, [], _, _, h, _ => by simp [putBack] at h
  | [], _ :: _, _, _, h, _ => by simp [putBack] at h
theorem call_run {X : Cx} {EX : EXT} {W : WX} {F : R (D × Bool)} {n : Nat} {m : R (List PV)} {σ : L2.St} {H : Hp} {Q : V → Hp → Prop} (hn : ∀ ps st r st', m st = some (.ok ps, st') → useF F ps st' = some r → ps.length = n) (h : tR X.K EX W (okM X.K) (callM F m) σ H Q) :
    tCallS (spF X.K EX n F) (WE W) (tR X.K EX W (okOs X.K) m) σ H Q := by
  obtain ⟨st0, P, r, st', R00, hm, er, q⟩ := h
  rcases bnd_some hm with ⟨x, e1, rfl⟩ | ⟨ps, st, e1, hk⟩
  · exact ⟨st0, P, .error x, st', R00, e1, fun y hy => er y (by cases hy; rfl), fun a ha => (by cases ha)⟩
  refine ⟨st0, P, .ok ps, st, R00, e1, fun y hy => (by cases hy), fun ps' hps vs H1 P1 ⟨hP, ok⟩ R0 g => ?_⟩
  cases hps; subst hP
  have hpn := hn ps st0 _ st e1 hk
  replace er := er.shift g
  unfold useF at hk
  cases ea : argsOf st ps with
  | none => rw [ea] at hk; cases hk
  | some svs =>
  rw [ea] at hk; dsimp only at hk
  split at hk
  · rename_i hnd
    cases eF : F svs with
    | none => rw [eF] at hk; cases hk
    | some pr =>
    obtain ⟨r', svs'⟩ := pr
    rw [eF] at hk; dsimp only at hk
    cases eb : putBack ps svs' st with
    | none => rw [eb] at hk; cases hk
    | some st2 =>
    rw [eb] at hk
    cases hk
    have nd := nodupN_nodup hnd
    obtain ⟨al, ag⟩ := argsOf_get ea
    obtain ⟨vl, vg⟩ := okPVs_get ok
    obtain ⟨b1, b2, b3, b4, b5⟩ := putBack_get eb nd
    -- the k-th slot of the callee
    have slot : ∀ (k : Nat) (s : SV), svs[k]? = some s → ∃ p, ps[k]? = some p ∧ argOf st p = some s := fun k s e => by
      have hk : k < ps.length := by rw [← al]; exact (List.getElem?_eq_some_iff.mp e).1
      obtain ⟨s', h1, h2⟩ := ag k ps[k] (List.getElem?_eq_getElem hk)
      rw [e] at h2; cases h2
      exact ⟨_, List.getElem?_eq_getElem hk, h1⟩
    have owk : ∀ (k : Nat) (l : Bool) (d : D), svs[k]? = some (.ow l d) → l = true ∧ ∃ i l', ps[k]? = some (.pk i) ∧ st[i]? = some (.ow l' d) := fun k l d e => by
      obtain ⟨p, h1, h2⟩ := slot k _ e
      cases p with
      | d _ => simp [argOf] at h2
      | pk i =>
        unfold argOf at h2
        dsimp only at h2
        split at h2 <;> cases h2
        rename_i l' e'
        exact ⟨rfl, i, l', h1, e'⟩
    have vk : ∀ (k i : Nat), ps[k]? = some (.pk i) → (vs.map some)[k]? = σ[i]? := fun k i e => by
      obtain ⟨v, h1, h2⟩ := vg k _ e
      have h2 : σ[i]? = some (some v) := h2
      rw [h2, List.getElem?_map, h1]; rfl
    -- owned by the callee: lent by us
    have owc : ∀ (k : Nat) (a : Addr), OwAt svs (vs.map some) k a ↔ ∃ i, LentBy st ps k i ∧ OwAt st σ i a := fun k a => by
      constructor
      · rintro ⟨⟨l, d, e⟩, e2⟩
        obtain ⟨_, i, l', h1, h2⟩ := owk k l d e
        exact ⟨i, ⟨h1, l', d, h2⟩, ⟨l', d, h2⟩, by rw [← vk k i h1]; exact e2⟩
      · rintro ⟨i, ⟨h1, l, d, h2⟩, _, h3⟩
        obtain ⟨s, q1, q2⟩ := ag k _ h1
        simp [argOf, h2] at q1
        subst q1
        exact ⟨⟨_, _, q2⟩, by rw [vk k i h1]; exact h3⟩
    have lentA : lentAll svs = true := List.all_eq_true.mpr fun s hs => by
      obtain ⟨k, hk, rfl⟩ := List.getElem_of_mem hs
      cases e : svs[k] with
      | ow l d =>
        have := (owk k l d (by rw [List.getElem?_eq_getElem hk, e])).1
        subst this; rfl
      | _ => rfl
    -- what is hidden from the callee
    let Pc : Addr → Prop := fun a => P1 a ∨ (Ow st σ a ∧ ¬ Ow svs (vs.map some) a)
    have hd : ∀ a, Hd svs (vs.map some) Pc a ↔ Hd st σ P1 a := fun a => by
      constructor
      · rintro (⟨k, h⟩ | h | ⟨h, _⟩)
        · obtain ⟨i, _, h2⟩ := (owc k a).mp h
          exact .inl ⟨i, h2⟩
        · exact .inr h
        · exact .inl h
      · rintro (h | h)
        · by_cases z : Ow svs (vs.map some) a
          · exact .inl z
          · exact .inr (.inr ⟨h, z⟩)
        · exact .inr (.inl h)
    have she : ∀ H, Sh svs (vs.map some) Pc H = Sh st σ P1 H := fun H => hid_congr hd
    have R1 : Rel X.K svs (vs.map some) H1 Pc := by
      refine ⟨by rw [al, List.length_map, vl], fun k d e => ?_, fun k l d e => ?_, fun k k' a h h' => ?_, fun a h z => ?_, fun a z => ?_⟩
      · obtain ⟨p, h1, h2⟩ := slot k _ e
        obtain ⟨v, h3, h4⟩ := vg k p h1
        refine ⟨v, by rw [List.getElem?_map, h3]; rfl, ?_⟩
        rw [she]
        cases p with
        | d d' => simp [argOf] at h2; subst h2; exact h4
        | pk i =>
          unfold argOf at h2
          dsimp only at h2
          split at h2 <;> cases h2
          rename_i e'
          obtain ⟨u, q1, q2⟩ := R0.val i _ e'
          have h4 : σ[i]? = some (some v) := h4
          rw [h4] at q1; cases q1
          exact q2
      · obtain ⟨_, i, l', h1, h2⟩ := owk k l d e
        obtain ⟨a, o, q1, q2, q3⟩ := R0.own i l' d h2
        exact ⟨a, o, by rw [vk k i h1]; exact q1, q2, by rw [she]; exact q3⟩
      · obtain ⟨i, h1, h2⟩ := (owc k a).mp h
        obtain ⟨j, h3, h4⟩ := (owc k' a).mp h'
        have := R0.sep i j a h2 h4
        subst this
        exact pks_inj nd h1 h3
      · rcases z with z | z
        · obtain ⟨k, h⟩ := h
          obtain ⟨i, _, h2⟩ := (owc k a).mp h
          exact R0.sepP a ⟨i, h2⟩ z
        · exact z.2 h
      · rcases z with z | z
        · exact R0.trk a z
        · exact R0.hdT (.inl z.1)
    -- behind the call: P2 what is hidden besides, x0 the fresh object
    have behind : ∀ (Px Pd : Addr → Prop) (H' : Hp), (∀ a, Pd a ↔ Pc a ∨ Px a) → (∀ a, Px a → ¬ Pc a) → Rel X.K svs' (vs.map some) H' Pd → Gr svs svs' (vs.map some) Pc Pd H1 H' →
        Rel X.K st' σ H' (fun a => P1 a ∨ Px a) ∧ Gr st st' σ P1 (fun a => P1 a ∨ Px a) H1 H' ∧ Sh svs' (vs.map some) Pd H' = Sh st' σ (fun a => P1 a ∨ Px a) H' := by
      intro Px Pd H' hPd hPx R2 g2
      have ow2 : ∀ (i : Nat) (a : Addr), OwAt st' σ i a ↔ OwAt st σ i a := fun i a => by
        have key : (∃ l d, st'[i]? = some (.ow l d)) ↔ ∃ l d, st[i]? = some (.ow l d) := by
          by_cases hl : ∃ k, LentBy st ps k i
          · obtain ⟨k, h1, l, d, h2⟩ := hl
            obtain ⟨d', _, q2⟩ := b4 k i l d h1 h2
            exact ⟨fun _ => ⟨l, d, h2⟩, fun _ => ⟨l, d', q2⟩⟩
          · rw [b3 i fun k hk => hl ⟨k, hk⟩]
        exact ⟨fun z => ⟨key.mp z.1, z.2⟩, fun z => ⟨key.mpr z.1, z.2⟩⟩
      have owc2 : ∀ (k : Nat) (a : Addr), OwAt svs' (vs.map some) k a ↔ OwAt svs (vs.map some) k a := fun k a => by
        constructor
        · rintro ⟨⟨l, d, e⟩, e2⟩
          have : ∃ i, LentBy st ps k i := Classical.byContradiction fun hn => by
            have := b5 k _ e fun i hi => hn ⟨i, hi⟩
            simp [isOw] at this
          obtain ⟨i, h1, l', d', h2⟩ := this
          obtain ⟨s, q1, q2⟩ := ag k _ h1
          simp [argOf, h2] at q1
          subst q1
          exact ⟨⟨_, _, q2⟩, e2⟩
        · rintro ⟨⟨l, d, e⟩, e2⟩
          obtain ⟨rfl, _⟩ := owk k l d e
          obtain ⟨d', e'⟩ := g2.lk.2 k d e
          exact ⟨⟨_, d', e'⟩, e2⟩
      have hd2 : ∀ a, Hd svs' (vs.map some) Pd a ↔ Hd st' σ (fun a => P1 a ∨ Px a) a := fun a => by
        have h1 : Ow svs' (vs.map some) a ↔ Ow svs (vs.map some) a := ⟨fun ⟨k, z⟩ => ⟨k, (owc2 k a).mp z⟩, fun ⟨k, z⟩ => ⟨k, (owc2 k a).mpr z⟩⟩
        have h2 : Ow st' σ a ↔ Ow st σ a := ⟨fun ⟨k, z⟩ => ⟨k, (ow2 k a).mp z⟩, fun ⟨k, z⟩ => ⟨k, (ow2 k a).mpr z⟩⟩
        have h3 := hd a
        unfold Hd at h3 ⊢
        rw [h1, h2, hPd a]
        constructor
        · rintro (z | z | z)
          · exact (h3.mp (.inl z)).elim .inl fun z => .inr (.inl z)
          · exact (h3.mp (.inr z)).elim .inl fun z => .inr (.inl z)
          · exact .inr (.inr z)
        · rintro (z | z | z)
          · exact (h3.mpr (.inl z)).elim .inl fun z => .inr (.inl z)
          · exact (h3.mpr (.inr z)).elim .inl fun z => .inr (.inl z)
          · exact .inr (.inr z)
      have she2 : Sh svs' (vs.map some) Pd H' = Sh st' σ (fun a => P1 a ∨ Px a) H' := hid_congr hd2
      have sm : Same (Sh st σ P1 H1) (Sh st' σ (fun a => P1 a ∨ Px a) H') := by
        have := g2.same
        rw [she, she2] at this
        exact this
      refine ⟨⟨by rw [b1]; exact R0.len, fun j d e => ?_, fun j l d e => ?_, fun i j a h h' => R0.sep i j a ((ow2 i a).mp h) ((ow2 j a).mp h'), fun a ⟨i, h⟩ z => ?_, fun a z => R2.trk a ((hPd a).mpr (z.elim (fun z => .inl (.inl z)) .inr))⟩,
        ⟨sm, fun a z => g2.fr a (.inl z), b1, fun j d e => ?_⟩, she2⟩
      · have hj : ∀ k, ¬ LentBy st ps k j := fun k ⟨h1, l, d', h2⟩ => by
          obtain ⟨d2, _, q2⟩ := b4 k j l d' h1 h2
          rw [e] at q2; cases q2
        rw [b3 j hj] at e
        obtain ⟨v, q1, q2⟩ := R0.val j d e
        exact ⟨v, q1, q2.mono sm⟩
      · by_cases hl : ∃ k, LentBy st ps k j
        · obtain ⟨k, h1, l', d', h2⟩ := hl
          obtain ⟨d2, q1, q2⟩ := b4 k j l' d' h1 h2
          rw [e] at q2; cases q2
          obtain ⟨a, o, z1, z2, z3⟩ := R2.own k true d q1
          rw [vk k j h1] at z1
          exact ⟨a, o, z1, z2, by rw [← she2]; exact z3⟩
        · have hj : ∀ k, ¬ LentBy st ps k j := fun k hk => hl ⟨k, hk⟩
          rw [b3 j hj] at e
          obtain ⟨a, o, q1, q2, q3⟩ := R0.own j l d e
          have oj : OwAt st σ j a := ⟨⟨l, d, e⟩, q1⟩
          have nl : ¬ Ow svs (vs.map some) a := fun ⟨k, z⟩ => by
            obtain ⟨i, z1, z2⟩ := (owc k a).mp z
            have := R0.sep i j a z2 oj
            subst this
            exact hj k z1
          exact ⟨a, o, q1, by rw [g2.fr a (.inr ⟨⟨j, oj⟩, nl⟩)]; exact q2, q3.mono sm⟩
      · rcases z with z | z
        · exact R0.sepP a ⟨i, (ow2 i a).mp h⟩ z
        · -- a fresh object is none of ours
          have hpd : Pd a := (hPd a).mpr (.inr z)
          have hh : Hd st σ P1 a := .inl ⟨i, (ow2 i a).mp h⟩
          rcases (hd a).mpr hh with y | y
          · obtain ⟨k, y⟩ := y
            exact R2.sepP a ⟨k, (owc2 k a).mpr y⟩ hpd
          · exact absurd y (hPx a z)
      · by_cases hl : ∃ k, LentBy st ps k j
        · obtain ⟨k, h1, l', d', h2⟩ := hl
          rw [e] at h2; cases h2
          obtain ⟨d2, q1, q2⟩ := b4 k j _ _ h1 e
          exact ⟨d2, q2⟩
        · exact ⟨d, by rw [b3 j fun k hk => hl ⟨k, hk⟩]; exact e⟩
    refine ⟨vl.trans hpn, svs, Pc, r, svs', R1, lentA, eF, fun a ha v H' P' ok' R2 g2 => ?_, fun x hx cls od H' hE R2 g2 => ?_⟩
    · obtain ⟨d, f⟩ := a
      cases f with
      | false =>
        obtain ⟨rfl, rp⟩ := ok'
        obtain ⟨R3, g3, e3⟩ := behind (fun _ => False) Pc H' (fun a => by simp) (fun _ z => z.elim) R2 g2
        have ep : (fun a => P1 a ∨ False) = P1 := funext fun a => by simp
        rw [ep] at R3 g3 e3
        rw [e3] at rp
        exact q _ ha v H' P1 ⟨rfl, rp⟩ R3 (g.trans g3)
      | true =>
        obtain ⟨x, o, rfl, hx, rfl, h4, h5⟩ := ok'
        obtain ⟨R3, g3, e3⟩ := behind (fun y => y = x) _ H' (fun a => Iff.rfl) (fun y z => by subst z; exact hx) R2 g2
        rw [e3] at h5
        exact q _ ha _ H' _ ⟨x, o, rfl, fun z => hx (.inl z), rfl, h4, h5⟩ R3 (g.trans g3)
    · obtain ⟨R3, g3, e3⟩ := behind (fun _ => False) Pc H' (fun a => by simp) (fun _ z => z.elim) R2 g2
      have ep : (fun a => P1 a ∨ False) = P1 := funext fun a => by simp
      rw [ep] at R3 g3
      exact er x hx cls od H' hE R3 g3
  · cases hk
/-- a def of the module, for its callers: by its name, its level, its parameters' number, what it does -/
structure FnAt (P : Program) (w : World) (K : PySem.W.Frag) (mg : Str → Option Value) (base : Heap) (EX : EXT) (x : Str) (k n : Nat) (F : R (D × Bool)) : Prop where
  ex : ∃ (f : Addr) (fd : FuncData) (ps : List Str), ps.length = n ∧ FnOk P w K mg base (L2.CX P w) k f fd ps (spF K EX n F) ∧ mg x = some (.ref f) ∧ PySem.W.keepIn K (.ref f) = true ∧ Binds K fd ps []
def lenIs (n : Nat) (m : R (List PV)) : R (List PV) := bnd m fun ps => if ps.length = n then ret ps else stuck
theorem se_call {X : Cx} {EX : EXT} {W : WX} {x : Str} {k n : Nat} {F : R (D × Bool)} {p pos : Pos} {e : Expr} {es : List Expr} {m : R (List PV)} (A : FnAt X.prog X.w X.K X.mg X.base EX x k n F) (tk : Takes X W) (hr : Room k X.A) (hg : Gl X x) (ha : SOs X EX W (e :: es) m)
    (hn : ∀ ps st r st', m st = some (.ok ps, st') → useF F ps st' = some r → ps.length = n) (hdb : (x == ("__debug__" : Str)) = false := by decide) (he : starEach (e :: es) X.env = (false, eval e X.env) :: starEach es X.env := by rfl) (hpl : (backTo pos (starEach es X.env)).any (·.1) = false := by rfl) :
    SE X EX W (.Call (.Name x p) (e :: es) [] pos) (callM F m) := by
  obtain ⟨f, fd, ps, hl, G, hm, kp, b⟩ := A.ex
  exact PE.weak (pe_callS G hr hg hm kp b (fun σ => passAt tk σ) ha hdb he hpl) fun σ H Q h => call_run hn h
/-- how many operands a row has -/
inductive OsLen : Nat → R (List PV) → Prop
  | nil : OsLen 0 osN
  | cons {a : R PV} {r : R (List PV)} {n : Nat} (h : OsLen n r) : OsLen (n + 1) (osC a r)
theorem OsLen.len {n : Nat} {m : R (List PV)} (h : OsLen n m) : ∀ {ps : List PV} {st st' : SS}, m st = some (.ok ps, st') → ps.length = n := by
  induction h with
  | nil =>
    intro ps st st' e
    obtain ⟨e1, _⟩ := ret_some e
    cases e1; rfl
  | cons h ih =>
    intro ps st st' e
    rcases bnd_some e with ⟨x, _, e2⟩ | ⟨a, st1, _, e2⟩
    · cases e2
    rcases bnd_some e2 with ⟨x, _, e3⟩ | ⟨r, st2, e3, e4⟩
    · cases e3
    obtain ⟨e5, _⟩ := ret_some e4
    cases e5
    simp [ih e3]
theorem se_callF {X : Cx} {EX : EXT} {W : WX} {x : Str} {k n : Nat} {F : R (D × Bool)} {p pos : Pos} {e : Expr} {es : List Expr} {m : R (List PV)} (A : FnAt X.prog X.w X.K X.mg X.base EX x k n F) (tk : Takes X W) (hr : Room k X.A) (hg : Gl X x) (ha : SOs X EX W (e :: es) m)
    (hn : OsLen n m) (hdb : (x == ("__debug__" : Str)) = false := by decide) (he : starEach (e :: es) X.env = (false, eval e X.env) :: starEach es X.env := by rfl) (hpl : (backTo pos (starEach es X.env)).any (·.1) = false := by rfl) :
    SE X EX W (.Call (.Name x p) (e :: es) [] pos) (callM F m) := se_call A tk hr hg ha (fun ps st r st' h _ => hn.len h) hdb he hpl
end G
namespace G
open PySem PySem.Spec PyProof.Rows L2

/-! ### the slots of a comprehension -/
def wip : List Nat → SS → Option SS
  | [], st => some st
  | j :: js, st => match wip js st with
    | none => none
    | some st1 => match st1[j]? with
      | some (.ow _ _) => none
      | _ => some (st1.set j .un)
def rst (st0 : SS) : List Nat → SS → SS
  | [], st => st
  | j :: js, st => (rst st0 js st).set j (st0.getD j .un)
theorem rst_length (st0 : SS) : ∀ (vs : List Nat) (st : SS), (rst st0 vs st).length = st.length
  | [], st => rfl
  | j :: js, st => by simp [rst, rst_length st0 js st]
theorem rst_get (st0 : SS) : ∀ (vs : List Nat) (st : SS) (i : Nat), (i ∉ vs → (rst st0 vs st)[i]? = st[i]?) ∧ (i ∈ vs → i < st.length → (rst st0 vs st)[i]? = some (st0.getD i .un))
  | [], st, i => ⟨fun _ => rfl, fun h => by simp at h⟩
  | j :: js, st, i => by
    obtain ⟨h1, h2⟩ := rst_get st0 js st i
    refine ⟨fun h => ?_, fun h hi => ?_⟩
    · simp only [List.mem_cons, not_or] at h
      show ((rst st0 js st).set j _)[i]? = _
      rw [List.getElem?_set_ne (Ne.symm h.1)]; exact h1 h.2
    · show ((rst st0 js st).set j _)[i]? = _
      by_cases hj : j = i
      · subst hj
        rw [List.getElem?_set_self (by rw [rst_length]; exact hi)]
      · rw [List.getElem?_set_ne hj]
        rcases List.mem_cons.mp h with z | z
        · exact absurd z.symm hj
        · exact h2 z hi
theorem wipe_get (σ : L2.St) : ∀ (vs : List Nat) (i : Nat), (i ∉ vs → (wipe σ vs)[i]? = σ[i]?) ∧ (i ∈ vs → i < σ.length → (wipe σ vs)[i]? = some none)
  | [], i => ⟨fun _ => rfl, fun h => by simp at h⟩
  | j :: js, i => by
    obtain ⟨h1, h2⟩ := wipe_get σ js i
    refine ⟨fun h => ?_, fun h hi => ?_⟩
    · simp only [List.mem_cons, not_or] at h
      show ((wipe σ js).set j _)[i]? = _
      rw [List.getElem?_set_ne (Ne.symm h.1)]; exact h1 h.2
    · show ((wipe σ js).set j _)[i]? = _
      by_cases hj : j = i
      · subst hj
        rw [List.getElem?_set_self (by rw [wipe_length]; exact hi)]
      · rw [List.getElem?_set_ne hj]
        rcases List.mem_cons.mp h with z | z
        · exact absurd z.symm hj
        · exact h2 z hi
theorem wip_get : ∀ {vs : List Nat} {st st' : SS}, wip vs st = some st' → st'.length = st.length ∧ ∀ (i : Nat), (i ∉ vs → st'[i]? = st[i]?) ∧ (i ∈ vs → i < st.length → st'[i]? = some .un) ∧ (i ∈ vs → ∀ l d, st[i]? ≠ some (.ow l d))
  | [], st, st', h => by cases h; exact ⟨rfl, fun i => ⟨fun _ => rfl, fun h => by simp at h, fun h => by simp at h⟩⟩
  | j :: js, st, st', h => by
    unfold wip at h
    split at h
    · cases h
    · rename_i st1 h1
      split at h
      · cases h
      · rename_i hno
        cases h
        obtain ⟨l, g⟩ := wip_get h1
        refine ⟨by simp [l], fun i => ?_⟩
        obtain ⟨g1, g2, g3⟩ := g i
        refine ⟨fun h => ?_, fun h hi => ?_, fun h => ?_⟩
        · simp only [List.mem_cons, not_or] at h
          rw [List.getElem?_set_ne (Ne.symm h.1)]; exact g1 h.2
        · by_cases hj : j = i
          · subst hj
            rw [List.getElem?_set_self (by rw [l]; exact hi)]
          · rw [List.getElem?_set_ne hj]
            rcases List.mem_cons.mp h with z | z
            · exact absurd z.symm hj
            · exact g2 z hi
        · by_cases hj : i ∈ js
          · exact g3 hj
          · rcases List.mem_cons.mp h with z | z
            · subst z
              intro l d e
              rw [← g1 hj] at e
              exact hno l d e
            · exact absurd z hj
section
variable {K : PySem.W.Frag} {st st' : SS} {σ : L2.St} {H : Hp} {P : Addr → Prop} {vs : List Nat}
/-- the block's own slots are forgotten -/
theorem Rel.wip (R0 : Rel K st σ H P) (h : G.wip vs st = some st') : Rel K st' (wipe σ vs) H P ∧ Sh st' (wipe σ vs) P H = Sh st σ P H ∧ LK st st' := by
  obtain ⟨l, g⟩ := wip_get h
  have ow : ∀ i a, OwAt st' (wipe σ vs) i a ↔ OwAt st σ i a := fun i a => by
    obtain ⟨g1, g2, g3⟩ := g i
    obtain ⟨w1, w2⟩ := wipe_get σ vs i
    by_cases hi : i ∈ vs
    · constructor
      · rintro ⟨⟨b, d, e⟩, e2⟩
        have : i < st.length := by rw [← l]; exact (List.getElem?_eq_some_iff.mp e).1
        rw [g2 hi this] at e; cases e
      · rintro ⟨⟨b, d, e⟩, _⟩
        exact absurd e (g3 hi b d)
    · unfold OwAt
      rw [g1 hi, w1 hi]
  have she : Sh st' (wipe σ vs) P H = Sh st σ P H := hid_congr fun a => by
    unfold Hd Ow
    simp only [ow]
  refine ⟨⟨by rw [l, wipe_length]; exact R0.len, fun i d e => ?_, fun i b d e => ?_, fun i j a h1 h2 => R0.sep i j a ((ow i a).mp h1) ((ow j a).mp h2), fun a ⟨i, h1⟩ => R0.sepP a ⟨i, (ow i a).mp h1⟩, R0.trk⟩, she, l, fun i d e => ?_⟩
  · obtain ⟨g1, g2, g3⟩ := g i
    obtain ⟨w1, w2⟩ := wipe_get σ vs i
    have hi : i ∉ vs := fun z => by
      rw [g2 z (by rw [← l]; exact (List.getElem?_eq_some_iff.mp e).1)] at e; cases e
    rw [g1 hi] at e
    rw [w1 hi, she]
    exact R0.val i d e
  · obtain ⟨g1, g2, g3⟩ := g i
    obtain ⟨w1, w2⟩ := wipe_get σ vs i
    have hi : i ∉ vs := fun z => by
      rw [g2 z (by rw [← l]; exact (List.getElem?_eq_some_iff.mp e).1)] at e; cases e
    rw [g1 hi] at e
    rw [w1 hi, she]
    exact R0.own i b d e
  · obtain ⟨g1, g2, g3⟩ := g i
    have hi : i ∉ vs := fun z => g3 z _ _ e
    exact ⟨d, by rw [g1 hi]; exact e⟩
/-- .. and are back -/
theorem Rel.rst {st0 : SS} {H0 : Hp} {P0 : Addr → Prop} (R0 : Rel K st0 σ H0 P0) (h0 : ∀ i ∈ vs, ∀ l d, st0[i]? ≠ some (.ow l d)) (hl : st.length = st0.length) (R1 : Rel K st (wipe σ vs) H P) (h1 : ∀ i ∈ vs, i < st.length → st[i]? = some .un) (s : Same (Sh st0 σ P0 H0) (Sh st (wipe σ vs) P H)) :
    Rel K (G.rst st0 vs st) σ H P ∧ Sh (G.rst st0 vs st) σ P H = Sh st (wipe σ vs) P H ∧ (LK st0 st → LK st0 (G.rst st0 vs st)) := by
  have rl := rst_length st0 vs st
  have at_ : ∀ i, i ∈ vs → i < st.length → (G.rst st0 vs st)[i]? = st0[i]? := fun i hi hlt => by
    rw [(rst_get st0 vs st i).2 hi hlt]
    rw [hl] at hlt
    simp [List.getD, hlt]
  have ow : ∀ i a, OwAt (G.rst st0 vs st) σ i a ↔ OwAt st (wipe σ vs) i a := fun i a => by
    obtain ⟨w1, w2⟩ := wipe_get σ vs i
    by_cases hi : i ∈ vs
    · constructor
      · rintro ⟨⟨b, d, e⟩, _⟩
        have : i < st.length := by rw [← rl]; exact (List.getElem?_eq_some_iff.mp e).1
        rw [at_ i hi this] at e
        exact absurd e (h0 i hi b d)
      · rintro ⟨⟨b, d, e⟩, _⟩
        rw [h1 i hi (List.getElem?_eq_some_iff.mp e).1] at e; cases e
    · unfold OwAt
      rw [(rst_get st0 vs st i).1 hi, w1 hi]
  have she : Sh (G.rst st0 vs st) σ P H = Sh st (wipe σ vs) P H := hid_congr fun a => by
    unfold Hd Ow
    simp only [ow]
  refine ⟨⟨by rw [rl, hl]; exact R0.len, fun i d e => ?_, fun i b d e => ?_, fun i j a z1 z2 => R1.sep i j a ((ow i a).mp z1) ((ow j a).mp z2), fun a ⟨i, z⟩ => R1.sepP a ⟨i, (ow i a).mp z⟩, R1.trk⟩, she, fun lk => ⟨by rw [rl, hl], fun i d e => ?_⟩⟩
  · have hlt : i < st.length := by rw [← rl]; exact (List.getElem?_eq_some_iff.mp e).1
    by_cases hi : i ∈ vs
    · rw [at_ i hi hlt] at e
      obtain ⟨v, q1, q2⟩ := R0.val i d e
      exact ⟨v, q1, by rw [she]; exact q2.mono s⟩
    · rw [(rst_get st0 vs st i).1 hi] at e
      obtain ⟨v, q1, q2⟩ := R1.val i d e
      rw [(wipe_get σ vs i).1 hi] at q1
      exact ⟨v, q1, by rw [she]; exact q2⟩
  · have hlt : i < st.length := by rw [← rl]; exact (List.getElem?_eq_some_iff.mp e).1
    by_cases hi : i ∈ vs
    · rw [at_ i hi hlt] at e
      exact absurd e (h0 i hi b d)
    · rw [(rst_get st0 vs st i).1 hi] at e
      obtain ⟨a, o, q1, q2, q3⟩ := R1.own i b d e
      rw [(wipe_get σ vs i).1 hi] at q1
      exact ⟨a, o, q1, q2, by rw [she]; exact q3⟩
  · have hi : i ∉ vs := fun z => h0 i z _ _ e
    rw [(rst_get st0 vs st i).1 hi]
    exact lk.2 i d e
/-- a hidden object may change -/
theorem sh_hidden {a : Addr} {o : HO} (h : Hd st σ P a) : Sh st σ P (upd H a o) = Sh st σ P H := by
  funext b
  show hid _ _ b = hid _ _ b
  by_cases q : Hd st σ P b
  · rw [hid_yes q, hid_yes q]
  · rw [hid_no q, hid_no q, upd_ne fun z => q (by subst z; exact h)]
theorem Rel.pending {a : Addr} {o : HO} (R0 : Rel K st σ H P) (h : P a) : Rel K st σ (upd H a o) P where
  len := R0.len
  val := fun i d e => by rw [sh_hidden (.inr h)]; exact R0.val i d e
  own := fun i l d e => by
    obtain ⟨b, u, q1, q2, q3⟩ := R0.own i l d e
    have hb : b ≠ a := fun z => by subst z; exact R0.sepP b ⟨i, ⟨_, _, e⟩, q1⟩ h
    exact ⟨b, u, q1, by rw [upd_ne hb]; exact q2, by rw [sh_hidden (.inr h)]; exact q3⟩
  sep := R0.sep
  sepP := R0.sepP
  trk := fun b hb => by
    by_cases z : b = a
    · subst z; rw [upd_same]; exact fun y => nomatch y
    · rw [upd_ne z]; exact R0.trk b hb
end

/-! ### list comprehensions -/
def lcGo (own : List Nat) (t : TM) (c : R Bool) (elt : R D) : List D → R (List D)
  | [] => ret []
  | d :: ds => fun st => match t d st with
    | none => none
    | some st1 => match c st1 with
      | some (.ok true, st2) => match elt st2 with
        | some (.ok e, st3) => match wip own st3 with
          | some st4 => match lcGo own t c elt ds st4 with
            | some (.ok es, st5) => some (.ok (e :: es), st5)
            | _ => none
          | none => none
        | _ => none
      | some (.ok false, st2) => match wip own st2 with
          | some st4 => lcGo own t c elt ds st4
          | none => none
      | _ => none
def lcM (own : List Nat) (src : R (List D)) (t : TM) (c : R Bool) (elt : R D) : R (D × Bool) := bnd src fun ds st => match wip own st with
  | none => none
  | some st1 => match lcGo own t c elt ds st1 with
    | some (.ok es, st2) => if small es then some (.ok (.lst es, true), rst st own st2) else none
    | _ => none
abbrev W0 : WX := fun _ _ _ _ => False
def STs (X : Cx) (EX : EXT) (W : WX) (ifs : List Expr) (m : R Bool) : Prop := PTs X ifs (tR X.K EX W okB m)
theorem sts_nil {X : Cx} {EX : EXT} {W : WX} : STs X EX W [] (ret true) := ⟨fun pins s σ H Q I ⟨st, P, r, st', R0, hm, er, q⟩ => pts_nil.run pins s σ H Q I (by
  obtain ⟨rfl, rfl⟩ := ret_some hm
  exact q true rfl true H P ⟨rfl, rfl⟩ R0 Gr.refl)⟩
theorem sts_one {X : Cx} {EX : EXT} {W : WX} {c : Expr} {m : R Bool} (h : ST X EX W c m) : STs X EX W [c] m := pts_one h
theorem wipe_only {σ σ' : L2.St} {is vs : List Nat} (hl : σ'.length = σ.length) (h : ∀ j, j ∉ is → σ'[j]? = σ[j]?) (hs : ∀ i ∈ is, i ∈ vs) : wipe σ' vs = wipe σ vs := by
  apply List.ext_getElem?
  intro i
  by_cases hi : i ∈ vs
  · by_cases hlt : i < σ.length
    · rw [(wipe_get σ' vs i).2 hi (by rw [hl]; exact hlt), (wipe_get σ vs i).2 hi hlt]
    · rw [List.getElem?_eq_none (by rw [wipe_length, hl]; omega), List.getElem?_eq_none (by rw [wipe_length]; omega)]
  · rw [(wipe_get σ' vs i).1 hi, (wipe_get σ vs i).1 hi]
    exact h i fun z => hi (hs i z)
theorem lc_run {K : PySem.W.Frag} {EX : EXT} {W : WX} {src : R (List D)} {t : TM} {is own : List Nat} {c : R Bool} {elt : R D} {σ : L2.St} {H : Hp} {Q : V → Hp → Prop} (hs : ∀ i ∈ is, i ∈ own) (h : tR K EX W (okM K) (lcM own src t c elt) σ H Q) :
    tLc (tI K EX W src) (tG K is t) (tR K EX W0 okB c) (tR K EX W0 (okD K) elt) own σ H Q := by
  obtain ⟨st, P, r, st', R0, hm, er, q⟩ := h
  rcases bnd_some hm with ⟨x, e1, rfl⟩ | ⟨ds, st1, e1, e2⟩
  · exact ⟨st, P, .error x, st', R0, e1, fun y hy => er y (by cases hy; rfl), fun a ha => (by cases ha)⟩
  refine ⟨st, P, .ok ds, st1, R0, e1, fun y hy => (by cases hy), fun ds' hds J H1 it R1 g1 L hL => ?_⟩
  cases hds
  cases ew : wip own st1 with
  | none => rw [ew] at e2; cases e2
  | some st2 =>
  rw [ew] at e2; dsimp only at e2
  cases eg : lcGo own t c elt ds st2 with
  | none => rw [eg] at e2; cases e2
  | some pr =>
  obtain ⟨rr, stE⟩ := pr
  rw [eg] at e2
  cases rr with
  | error x => cases e2
  | ok total =>
  dsimp only at e2
  split at e2
  · rename_i hsm
    cases e2
    have hsm : total.length ≤ sizeLine := of_decide_eq_true hsm
    obtain ⟨R2, she, lk2⟩ := R1.wip ew
    obtain ⟨wl, wg⟩ := wip_get ew
    let Pd : Addr → Prop := fun y => P y ∨ y = L
    have hPL : ¬ P L := fun z => R1.fresh hL (.inr z)
    have R3 : Rel K st2 (wipe σ own) (upd H1 L (.lst [])) Pd := R2.pend hL
    have g3 : Gr st2 st2 (wipe σ own) P Pd H1 (upd H1 L (.lst [])) := Gr.pend R2 hL
    have s0 : Same (Sh st1 σ P H1) (Sh st2 (wipe σ own) Pd (upd H1 L (.lst []))) := by rw [← she]; exact g3.same
    refine ⟨fun i m H' => m = ds.length - i ∧ i ≤ ds.length ∧ ∃ sti acc accV rest, Rel K sti (wipe σ own) H' Pd ∧ Same (Sh st1 σ P H1) (Sh sti (wipe σ own) Pd H') ∧ (∀ a, P a → H' a = H1 a) ∧ LK st1 sti ∧ H' L = some (.lst accV) ∧
        Reps K (Sh sti (wipe σ own) Pd H') acc accV ∧ lcGo own t c elt (ds.drop i) sti = some (.ok rest, stE) ∧ acc ++ rest = total ∧ (∀ j ∈ own, j < sti.length → sti[j]? = some .un),
      ⟨ds.length, by simp, Nat.zero_le _, st2, [], [], total, R3, s0, fun a ha => by rw [upd_ne (fun z => hPL (by rw [← z]; exact ha))], lk2, upd_same, Reps.nil, eg, rfl, fun j hj hlt => (wg j).2.1 hj (by rw [← wl]; exact hlt)⟩, ?_⟩
    rintro i m H' ⟨rfl, hi, sti, acc, accV, rest, Ri, si, fi, lki, hLi, ra, ei, ea, ui⟩
    have sH : Same (Sh st1 σ P H1) H' := si.trans hid_same
    by_cases hlt : i < ds.length
    · rw [drop_cons hlt] at ei
      refine .inr ⟨it.go i H' hlt sH, fun H2 => ∃ sti acc accV rest, Rel K sti (wipe σ own) H2 Pd ∧ Same (Sh st1 σ P H1) (Sh sti (wipe σ own) Pd H2) ∧ (∀ a, P a → H2 a = H1 a) ∧ LK st1 sti ∧ H2 L = some (.lst accV) ∧
        Reps K (Sh sti (wipe σ own) Pd H2) acc accV ∧ lcGo own t c elt (ds.drop (i + 1)) sti = some (.ok rest, stE) ∧ acc ++ rest = total ∧ (∀ j ∈ own, j < sti.length → sti[j]? = some .un), fun H2 z => ⟨_, by omega, rfl, hlt, z⟩, fun x H2 y => ?_⟩
      obtain ⟨s2, rp⟩ := it.yld i ds[i] H' x H2 (List.getElem?_eq_getElem hlt) sH y
      unfold lcGo at ei
      cases et : t ds[i] sti with
      | none => rw [et] at ei; cases ei
      | some st5 =>
      rw [et] at ei; dsimp only at ei
      have gy := Gr.grow Ri s2
      refine ⟨sti, Pd, ds[i], st5, Ri.grow s2, rp _ (fun a ha => Ri.hdT ha) si, et, fun σ2 R5 g5 on => ⟨wipe_only on.1 (fun j hj => (on.2 j hj).1) hs |>.trans ?_, ?_⟩⟩
      · -- wiped twice
        apply List.ext_getElem?
        intro j
        by_cases hj : j ∈ own
        · by_cases hlt2 : j < σ.length
          · rw [(wipe_get _ own j).2 hj (by rw [wipe_length]; exact hlt2), (wipe_get σ own j).2 hj hlt2]
          · rw [List.getElem?_eq_none (by rw [wipe_length, wipe_length]; omega), List.getElem?_eq_none (by rw [wipe_length]; omega)]
        · rw [(wipe_get _ own j).1 hj]
      have hw : wipe σ2 own = wipe σ own := by
        refine (wipe_only on.1 (fun j hj => (on.2 j hj).1) hs).trans ?_
        apply List.ext_getElem?
        intro j
        by_cases hj : j ∈ own
        · by_cases hlt2 : j < σ.length
          · rw [(wipe_get _ own j).2 hj (by rw [wipe_length]; exact hlt2), (wipe_get σ own j).2 hj hlt2]
          · rw [List.getElem?_eq_none (by rw [wipe_length, wipe_length]; omega), List.getElem?_eq_none (by rw [wipe_length]; omega)]
        · rw [(wipe_get _ own j).1 hj]
      have sA : Same (Sh sti (wipe σ own) Pd H') (Sh st5 σ2 Pd H2) := gy.same.trans g5.same
      cases ec : c st5 with
      | none => rw [ec] at ei; cases ei
      | some pc =>
      obtain ⟨rc, st6⟩ := pc
      rw [ec] at ei
      cases rc with
      | error x => cases ei
      | ok b =>
      refine ⟨st5, Pd, .ok b, st6, R5, ec, fun y hy => (by cases hy), fun b' hb' b2 H3 P3 ⟨hP3, hb2⟩ R6 g6 => ?_⟩
      cases hb'; subst hP3; subst hb2
      have lk5 : LK sti st5 := ⟨g5.ln, fun j d e => (g5.lk j d e).1⟩
      have fL : ∀ {st7 : SS} {H4 : Hp}, Gr st5 st7 σ2 Pd Pd H2 H4 → H4 L = some (.lst accV) ∧ (∀ a, P a → H4 a = H1 a) := fun {st7 H4} g7 => by
        refine ⟨?_, fun a ha => ?_⟩
        · rw [g7.fr L (.inr rfl), s2 L _ hLi]
        · rw [g7.fr a (.inl ha), gy.fr a (.inl ha), fi a ha]
      cases b2 with
      | false =>
        dsimp only at ei
        rw [if_neg Bool.false_ne_true]
        cases ew2 : wip own st6 with
        | none => rw [ew2] at ei; cases ei
        | some st7 =>
          rw [ew2] at ei
          obtain ⟨R7, she7, lk7⟩ := R6.wip ew2
          rw [hw] at R7 she7
          obtain ⟨wl7, wg7⟩ := wip_get ew2
          obtain ⟨f1, f2⟩ := fL g6
          have sB : Same (Sh sti (wipe σ own) Pd H') (Sh st7 (wipe σ own) Pd H3) := by rw [she7]; exact sA.trans g6.same
          exact ⟨st7, acc, accV, rest, R7, si.trans sB, f2, (lki.trans lk5).trans (g6.lk.trans lk7), f1, ra.mono sB, ei, ea, fun j hj hlt => (wg7 j).2.1 hj (by rw [← wl7]; exact hlt)⟩
      | true =>
        dsimp only at ei
        rw [if_pos rfl]
        cases ee : elt st6 with
        | none => rw [ee] at ei; cases ei
        | some pe =>
        obtain ⟨re, st7⟩ := pe
        rw [ee] at ei
        cases re with
        | error x => cases ei
        | ok e =>
        dsimp only at ei
        cases ew2 : wip own st7 with
        | none => rw [ew2] at ei; cases ei
        | some st8 =>
        rw [ew2] at ei; dsimp only at ei
        cases el : lcGo own t c elt (ds.drop (i + 1)) st8 with
        | none => rw [el] at ei; cases ei
        | some pl =>
        obtain ⟨rl, st9⟩ := pl
        rw [el] at ei
        cases rl with
        | error x => cases ei
        | ok es =>
        cases ei
        refine ⟨st6, Pd, .ok e, st7, R6, ee, fun y hy => (by cases hy), fun e' he' yv H4 P4 ⟨hP4, re⟩ R7 g7 => ?_⟩
        cases he'; subst hP4
        have g67 := g6.trans g7
        obtain ⟨f1, f2⟩ := fL g67
        have hz : accV.length < sizeLine := by
          rw [ra.length]
          have := congrArg List.length ea
          simp at this
          omega
        refine ⟨accV, f1, hz, ?_⟩
        have R8 := R7.pending (a := L) (o := .lst (accV ++ [yv])) (.inr rfl)
        obtain ⟨R9, she9, lk9⟩ := R8.wip ew2
        rw [hw] at R9 she9
        obtain ⟨wl9, wg9⟩ := wip_get ew2
        have she10 : Sh st8 (wipe σ own) Pd (upd H4 L (.lst (accV ++ [yv]))) = Sh st7 σ2 Pd H4 := by rw [she9, sh_hidden (.inr (.inr rfl))]
        have sB : Same (Sh sti (wipe σ own) Pd H') (Sh st8 (wipe σ own) Pd (upd H4 L (.lst (accV ++ [yv])))) := by rw [she10]; exact sA.trans g67.same
        refine ⟨st8, acc ++ [e], accV ++ [yv], es, R9, si.trans sB, fun a ha => ?_, (lki.trans lk5).trans (g67.lk.trans lk9), upd_same, Reps.append (ra.mono sB) (Reps.one (by rw [she10]; exact re)), el, by rw [← ea]; simp, fun j hj hlt => (wg9 j).2.1 hj (by rw [← wl9]; exact hlt)⟩
        rw [upd_ne (fun z => hPL (by rw [← z]; exact ha))]
        exact f2 a ha
    · have e : i = ds.length := by omega
      subst e
      rw [List.drop_length] at ei
      obtain ⟨e3, rfl⟩ := ret_some ei
      cases e3
      rw [List.append_nil] at ea
      subst ea
      refine .inl ⟨it.stop H' sH, ?_⟩
      obtain ⟨R4, she4, lk4⟩ := Rel.rst R1 (fun i hi => (wg i).2.2 hi) lki.1 Ri ui si
      refine q _ rfl _ H' Pd ⟨L, .lst accV, rfl, hPL, rfl, hLi, ?_⟩ R4 ⟨g1.same.trans (by rw [she4]; exact si), fun a ha => (fi a ha).trans (g1.fr a ha), g1.lk.trans (lk4 lki)⟩
      rw [she4]
      simp only [RepO]
      exact ra
  · cases e2
theorem se_lc {X : Cx} {EX : EXT} {W : WX} {elt tg iter : Expr} {ifs : List Expr} {scope : Scope} {own : List (Str × Nat)} {pos : Pos} {src : R (List D)} {t : TM} {c : R Bool} {m : R D} (hc : X.calm = true) (hN : X.N.Nodup) (hi : SI X EX W tg iter src) (ok : BlkOk X.N X.env.scope scope own)
    (hg : ∀ (s : Shared) (H : Hp) (C : Addr) (cl : List (Str × Addr)) (fp : List Addr), SG (X.blk s H scope (compEnvC scope cl C X.env) fp) (own.map (·.2)) tg t) (ht : ∀ (s : Shared) (H : Hp) (C : Addr) (cl : List (Str × Addr)) (fp : List Addr), STs (X.blk s H scope (compEnvC scope cl C X.env) fp) EX W0 ifs c)
    (he : ∀ (s : Shared) (H : Hp) (C : Addr) (cl : List (Str × Addr)) (fp : List Addr), SD (X.blk s H scope (compEnvC scope cl C X.env) fp) EX W0 elt m) (hs : ∀ x, foldedSetIterable iter X.env x = pure x := by intro _; rfl) :
    SE X EX W (.ListComp elt [⟨tg, iter, ifs, 0⟩] scope pos) (lcM (own.map (·.2)) src t c m) :=
  PE.weak (pe_lc (g := tG X.K (List.map (fun p : Str × Nat => p.2) own) t) (tt := tR X.K EX W0 okB c) (te := tR X.K EX W0 (okD X.K) m) hc hN hi ok hg ht he hs) fun σ H Q h => lc_run (fun _ h => h) h
theorem ss_setLc {X : Cx} {EX : EXT} {W : WX} {i : Nat} {y : Str} {py : Pos} {elt tg iter : Expr} {ifs : List Expr} {scope : Scope} {own : List (Str × Nat)} {pos spos : Pos} {src : R (List D)} {t : TM} {c : R Bool} {m : R D} (hc : X.calm = true) (hN : X.N.Nodup) (hy : X.N[i]? = some y) (hyl : X.env.scope.names.lookup y = some .local)
    (hsw : swapsWith (.ListComp elt [⟨tg, iter, ifs, 0⟩] scope pos) (some (.Name y py)) spos.line X.env = pure true) (hi : SI X EX W tg iter src) (ok : BlkOk X.N X.env.scope scope own)
    (hg : ∀ (s : Shared) (H : Hp) (C : Addr) (cl : List (Str × Addr)) (fp : List Addr), SG (X.blk s H scope (compEnvC scope cl C X.env) fp) (own.map (·.2)) tg t) (ht : ∀ (s : Shared) (H : Hp) (C : Addr) (cl : List (Str × Addr)) (fp : List Addr), STs (X.blk s H scope (compEnvC scope cl C X.env) fp) EX W0 ifs c)
    (he : ∀ (s : Shared) (H : Hp) (C : Addr) (cl : List (Str × Addr)) (fp : List Addr), SD (X.blk s H scope (compEnvC scope cl C X.env) fp) EX W0 elt m) (hs : ∀ x, foldedSetIterable iter X.env x = pure x := by intro _; rfl) :
    SS1 X EX W (.Assign [.Name y py] (.ListComp elt [⟨tg, iter, ifs, 0⟩] scope pos) spos) (setM i (lcM (own.map (·.2)) src t c m)) :=
  PS.weak (ps_setLc (g := tG X.K (List.map (fun p : Str × Nat => p.2) own) t) (tt := tR X.K EX W0 okB c) (te := tR X.K EX W0 (okD X.K) m) hc hN hy hyl hsw hi ok hg ht he hs) fun D σ H h => by
    have h1 := set_run h
    exact lc_run (fun _ h => h) h1
end G
namespace G
open PySem PySem.Spec PyProof.Rows L2

/-! ### reading operands -/
section
variable {K : PySem.W.Frag} {O : Addr → Prop} {H : Hp}
theorem Vw.int {i : Int} {v : V} (h : Vw K (hid O H) H (.int i) v) : v = .int i := by
  rcases h with h | ⟨a, o, _, _, h⟩
  · exact rep_int h
  · cases o <;> simp only [RepO] at h
theorem Vw.bl {b : Bool} {v : V} (h : Vw K (hid O H) H (.bl b) v) : v = .bl b := by
  rcases h with h | ⟨a, o, _, _, h⟩
  · simpa only [Rep] using h
  · cases o <;> simp only [RepO] at h
theorem Vw.str {x : Str} {v : V} (h : Vw K (hid O H) H (.str x) v) : v = .str x := by
  rcases h with h | ⟨a, o, _, _, h⟩
  · simpa only [Rep] using h
  · cases o <;> simp only [RepO] at h
theorem Vw.non {v : V} (h : Vw K (hid O H) H .non v) : v = .non := by
  rcases h with h | ⟨a, o, _, _, h⟩
  · simpa only [Rep] using h
  · cases o <;> simp only [RepO] at h
theorem Vw.tup {ds : List D} {v : V} (h : Vw K (hid O H) H (.tup ds) v) : ∃ a vs, v = .ref a ∧ SqT K H a vs ∧ Reps K (hid O H) ds vs := by
  rcases h with h | ⟨a, o, _, _, h⟩
  · simp only [Rep] at h
    obtain ⟨a, vs, e, h1, h2⟩ := h
    exact ⟨a, vs, e, sameT hid_same h1, h2⟩
  · cases o <;> simp only [RepO] at h
theorem Vw.lst {ds : List D} {v : V} (h : Vw K (hid O H) H (.lst ds) v) : ∃ a vs, v = .ref a ∧ SqL K H a vs ∧ Reps K (hid O H) ds vs := by
  rcases h with h | ⟨a, o, e, ho, h⟩
  · simp only [Rep] at h
    obtain ⟨a, vs, e, h1, h2⟩ := h
    exact ⟨a, vs, e, hid_same.seq h1, h2⟩
  · cases o <;> simp only [RepO] at h
    exact ⟨a, _, e, SqL.of ho, h⟩
theorem Vws.one {d : D} {vs : List V} (h : Vws K (hid O H) H [d] vs) : ∃ v, vs = [v] ∧ Vw K (hid O H) H d v := by
  obtain ⟨v, r, rfl, h1, h2⟩ := h
  cases h2
  exact ⟨v, rfl, h1⟩
theorem Vws.two {d e : D} {vs : List V} (h : Vws K (hid O H) H [d, e] vs) : ∃ v w, vs = [v, w] ∧ Vw K (hid O H) H d v ∧ Vw K (hid O H) H e w := by
  obtain ⟨v, r, rfl, h1, w, r2, rfl, h2, h3⟩ := h
  cases h3
  exact ⟨v, w, rfl, h1, h2⟩
/-- a scalar result -/
theorem ResQ.sc {d : D} {Q : V → Hp → Prop} {v : V} (h : ResQ K O H d false Q) (r : ∀ S, Rep K S d v) : Q v H := h.val rfl v H (Same.refl _) (r _)
theorem ResQ.i {i : Int} {Q : V → Hp → Prop} (h : ResQ K O H (.int i) false Q) : Q (.int i) H := h.sc fun _ => by simp only [Rep]
theorem ResQ.b {i : Bool} {Q : V → Hp → Prop} (h : ResQ K O H (.bl i) false Q) : Q (.bl i) H := h.sc fun _ => by simp only [Rep]
theorem ResQ.s {i : Str} {Q : V → Hp → Prop} (h : ResQ K O H (.str i) false Q) : Q (.str i) H := h.sc fun _ => by simp only [Rep]
/-- a new list, a new tuple -/
theorem ResQ.l {ds : List D} {vs : List V} {Q : V → Hp → Prop} (h : ResQ K O H (.lst ds) true Q) (r : Reps K (hid O H) ds vs) : ∀ p, H p = none → Q (.ref p) (upd H p (.lst vs)) := fun p hp => h.obj rfl p _ hp (by simp only [RepO]; exact r)
theorem ResQ.t {ds : List D} {vs : List V} {Q : V → Hp → Prop} (hO : ∀ a, O a → H a ≠ none) (h : ResQ K O H (.tup ds) false Q) (r : Reps K (hid O H) ds vs) : ∀ p, H p = none → Q (.ref p) (upd H p (.tup vs)) := fun p hp => by
  have s := same_upd (o := .tup vs) hp
  refine h.val rfl _ _ s ?_
  simp only [Rep]
  refine ⟨p, vs, rfl, SqT.of ?_, r.mono (same_hid s)⟩
  rw [hid_no fun z => hO p z hp, upd_same]
end

/-! ### arithmetic -/
/-- a row of ways -/
def orR (r r' : R2) : R2 := fun x y H Q => r x y H Q ∨ r' x y H Q
def rCatL (K : PySem.W.Frag) : R2 := fun x y H Q => ∃ l b xs zs, x = .ref l ∧ y = .ref b ∧ SqL K H l xs ∧ SqL K H b zs ∧ xs.length + zs.length ≤ sizeLine ∧ ∀ p, H p = none → Q (.ref p) (upd H p (.lst (xs ++ zs)))
section
variable {X : Cx}
theorem isList_obj {h : Heap} {a : Addr} {its : Array Value} (p : PlainL h a its) : ∃ n sl, h.get? a = some { cls := .type "list", dict := none, data := .seq its n, slots := sl } := by
  obtain ⟨⟨c, d, dt, sl⟩, n, e, h1, h2, h3⟩ := p
  simp only at h1 h2 h3
  subst h1 h2 h3
  exact ⟨n, sl, e⟩
end
def addF : D → D → Option (D × Bool)
  | .int i, .int j => some (.int (i + j), false)
  | .str x, .str y => if x.length + y.length ≤ sizeLine then some (.str (x ++ y), false) else none
  | .lst a, .lst b => if a.length + b.length ≤ sizeLine then some (.lst (a ++ b), true) else none
  | .tup a, .tup b => if a.length + b.length ≤ sizeLine then some (.tup (a ++ b), false) else none
  | _, _ => none
def subF : D → D → Option (D × Bool)
  | .int i, .int j => some (.int (i - j), false)
  | _, _ => none
def mulF : D → D → Option (D × Bool)
  | .int i, .int j => if i.natAbs.log2 + j.natAbs.log2 < 1000000 then some (.int (i * j), false) else none
  | .lst a, .int k => if -(2 ^ 63) ≤ k ∧ k < 2 ^ 63 ∧ a.length * k.toNat ≤ sizeLine then some (.lst (List.replicate k.toNat a).flatten, true) else none
  | _, _ => none
def divF : D → D → Option (D × Bool)
  | .int i, .int j => if 0 < j ∧ j.natAbs.log2 < 9000 then some (.int (i / j), false) else none
  | _, _ => none
def modF : D → D → Option (D × Bool)
  | .int i, .int j => if 0 < j then some (.int (i % j), false) else none
  | _, _ => none
def powF : D → D → Option (D × Bool)
  | .int i, .int j => if 0 ≤ j ∧ j ≤ 1000000 ∧ i.natAbs < 2 ^ 64 then some (.int (i ^ j.toNat), false) else none
  | _, _ => none
def cmpF (f : Int → Int → Bool) : D → D → Option (D × Bool)
  | .int i, .int j => some (.bl (f i j), false)
  | _, _ => none

section
theorem list_mulW (l : Addr) (items : Array Value) (n : Nat) (dd : Option Addr) (sl : Array (Option Value)) (x : Int) (u : Tok) (hc0 : ¬(!Builtin.List.listFitsIndex x) = true) (hc1 : ¬items.size * x.toNat > (2 ^ 63 - 1) / 8) (hc2 : ¬Builtin.List.listTooLong (items.size * x.toNat) = true) :
    Meets (Builtin.«list.__mul__» ⟨[.ref l, .int x u], []⟩) (fun _ R s => s.heap.get? l = some { cls := .type "list", dict := dd, data := .seq items n, slots := sl } ∧ R (.ok (.ret (Value.ref s.heap.objs.size))) { s with heap := s.heap.push { cls := Value.type "list", data := Data.seq (List.foldl (fun x1 x2 => x1 ++ x2) #[] (List.replicate (if items.isEmpty = true then 0 else x.toNat) items)) } }) :=
  .of_wp fun prog w A R s h => by
    obtain ⟨hp, g, d, tk, os⟩ := s; obtain ⟨hl, h⟩ := h
    have hsz := PySem.AutoListH.joined_fits hc2
    wp_walk using wpAny_loadPart' hl; refine wpAny_ite_false (decide_eq_false (Nat.not_lt.mpr hsz)) ?_; wp_walk using wpAny_loadPart' hl; exact ⟨_, rfl, h⟩
theorem int_rmul_listW (a : Int) (t : Tok) (l : Addr) (items : Array Value) (n : Nat) (dd : Option Addr) (sl : Array (Option Value)) :
    Meets (Builtin.«int.__rmul__» ⟨[.int a t, .ref l], []⟩) (fun _ R s => s.heap.get? l = some { cls := .type "list", dict := dd, data := .seq items n, slots := sl } ∧ R (.ok (.ret Value.notImplemented)) s) :=
  .of_wp fun prog w A R s h => by obtain ⟨hp, g, d, tk, os⟩ := s; obtain ⟨hl, h⟩ := h; wp_walk using wpAny_loadPart' hl; exact ⟨_, rfl, h⟩
end
def rRepL (K : PySem.W.Frag) : R2 := fun x y H Q => ∃ l k xs, x = .ref l ∧ y = .int k ∧ SqL K H l xs ∧ -(2 ^ 63) ≤ k ∧ k < 2 ^ 63 ∧ xs.length * k.toNat ≤ sizeLine ∧
  ∀ p, H p = none → Q (.ref p) (upd H p (.lst (List.replicate k.toNat xs).flatten))
section
variable {X : Cx}
theorem op_catL : OpR X (binaryOp .Add) (rCatL X.K) := by
  intro pins s σ H x y v u Q I rx ry h
  obtain ⟨l, b, xs, zs, rfl, rfl, hH, hB, hz, q⟩ := h
  cases rx
  cases ry
  obtain ⟨its, r, p1, z1⟩ := I.list hH
  obtain ⟨its2, r2, p2, z2⟩ := I.list hB
  obtain ⟨n1, sl1, e1⟩ := isList_obj p1
  obtain ⟨n2, sl2, e2⟩ := isList_obj p2
  have hl1 := r.length
  have hl2 := r2.length
  have e : its.toArray ++ its2.toArray = (its ++ its2).toArray := by simp
  refine concat_meets ⟨_, e1, rfl⟩ ⟨_, e2, rfl⟩ noFill_list_add seq_list_add PySem.F.slot_list_add PySem.F.entry_list_add (PySem.F.args_list_add_2 _ _) (PyProof.Rows.list_addW l b its.toArray its2.toArray n1 n2 none none sl1 sl2 (by simp; omega)) ⟨e1, e2, ?_⟩
  rw [e]
  exact ⟨.ref _, _, I.lnew (t' := s.toks) (r.append r2) (by rw [List.length_append]; omega), rfl, q _ I.fresh⟩
theorem op_repL : OpR X (binaryOp .Mult) (rRepL X.K) := by
  intro pins s σ H x y v u Q I rx ry h
  obtain ⟨l, k, xs, rfl, rfl, hH, h1, h2, hz, q⟩ := h
  cases rx
  obtain ⟨t, rfl⟩ := ry
  obtain ⟨its, r, p1, z1⟩ := I.list hH
  obtain ⟨n, sl, e⟩ := isList_obj p1
  have hl := r.length
  have hlen : its.toArray.size * k.toNat ≤ sizeLine := by rw [List.size_toArray, ← hl]; exact hz
  have hcap : ¬ its.toArray.size * k.toNat > (2 ^ 63 - 1) / 8 := by
    have : (sizeLine : Nat) ≤ (2 ^ 63 - 1) / 8 := by decide
    omega
  have hfit : ¬ (!Builtin.List.listFitsIndex k) = true := by
    rw [fitsIndex_both h1 h2]
    exact Bool.false_ne_true
  have hlong : ¬ Builtin.List.listTooLong (its.toArray.size * k.toNat) = true := by
    rw [notLongL hlen]
    exact Bool.false_ne_true
  have hnew : List.foldl (fun x1 x2 => x1 ++ x2) #[] (List.replicate (if its.toArray.isEmpty = true then 0 else k.toNat) its.toArray) = (List.replicate k.toNat its).flatten.toArray := by
    have f0 : ∀ m : Nat, List.foldl (fun x1 x2 => x1 ++ x2) #[] (List.replicate m its.toArray) = (List.replicate m its).flatten.toArray := fun m => by
      have := foldl_rep its m []
      rw [List.nil_append] at this
      exact this
    rw [f0]
    cases its with
    | nil => simp
    | cons a r' => rw [if_neg (by simp)]
  refine wpAny_binaryOp_repeat_ref (T := "list") (U := "int") (by decide) ⟨_, e, rfl⟩ (fun s' => typeIs_int s' k t) noFill_list_mul F.fills_int_mul F.slot_int_rmul repeat_list F.slot_int_index.lookup
    (call_meets F.slot_int_rmul (typeIs_int s k t) F.entry_int_rmul (F.args_int_rmul_2 _ _) (int_rmul_listW k t l its.toArray n none sl)
      ⟨e, rfl, ⟨_, e, rfl⟩, call_meets F.slot_list_mul ⟨_, e, rfl⟩ F.entry_list_mul (F.args_list_mul_2 _ _) (list_mulW l its.toArray n none sl k t hfit hcap hlong) ⟨e, ?_⟩⟩)
  rw [hnew]
  exact ⟨.ref _, _, I.lnew (t' := s.toks) (r.rep k.toNat) (by rw [PyProof.Rows.lm_len_rep_flat, Nat.mul_comm]; exact hz), rfl, q _ I.fresh⟩
abbrev rAdd3 (K : PySem.W.Frag) : R2 := fun x y H Q => (∃ i j, x = .int i ∧ y = .int j ∧ Q (.int (i + j)) H) ∨ ((∃ i j, x = .str i ∧ y = .str j ∧ i.length + j.length ≤ sizeLine ∧ Q (.str (i ++ j)) H) ∨ (rCatL K x y H Q ∨ rCatA K x y H Q))
theorem opr_add : OpR X (binaryOp .Add) (rAdd3 X.K) := op_add.or (op_add_str.or (op_catL.or op_catA))
theorem opr_mul : OpR X (binaryOp .Mult) (fun x y H Q => rI CMulW (fun i j => .int (i * j)) x y H Q ∨ rRepL X.K x y H Q) := op_mulW.or op_repL
end
section
variable {K : PySem.W.Frag}
theorem f2_add : Op2 K (rAdd3 K) addF := by
  intro O H x y dx dy d b Q hO hx hy e q
  unfold addF at e
  split at e
  · cases e
    cases hx.int; cases hy.int
    exact .inl ⟨_, _, rfl, rfl, q.i⟩
  · split at e
    · rename_i hz
      cases e
      cases hx.str; cases hy.str
      exact .inr (.inl ⟨_, _, rfl, rfl, hz, q.s⟩)
    · cases e
  · split at e
    · rename_i hz
      cases e
      obtain ⟨a, vs, rfl, h1, h2⟩ := hx.lst
      obtain ⟨c, us, rfl, h3, h4⟩ := hy.lst
      exact .inr (.inr (.inl ⟨a, c, vs, us, rfl, rfl, h1, h3, by rw [h2.length, h4.length]; exact hz, q.l (h2.append h4)⟩))
    · cases e
  · split at e
    · rename_i hz
      cases e
      obtain ⟨a, vs, rfl, h1, h2⟩ := hx.tup
      obtain ⟨c, us, rfl, h3, h4⟩ := hy.tup
      have old : ∀ {t : Addr} {ws : List V} {ds : List D}, SqT K H t ws → Reps K (hid O H) ds ws → Vw K (hid O H) H (.tup ds) (.ref t) → Rep K (hid O H) (.tup ds) (.ref t) := fun {t ws ds} _ _ hv => by
        rcases hv with hv | ⟨a, o, _, _, hv⟩
        · exact hv
        · cases o <;> simp only [RepO] at hv
      refine .inr (.inr (.inr ⟨a, c, vs, us, rfl, rfl, h1, h3, by rw [h2.length, h4.length]; exact hz, fun z => ?_, fun z1 z2 => ?_, fun _ _ => q.t hO (h2.append h4)⟩))
      · subst z
        have hn := List.eq_nil_of_length_eq_zero h2.length.symm
        rw [hn, List.nil_append] at q
        exact q.val rfl _ H (Same.refl _) (old h3 h4 hy)
      · subst z2
        have hn := List.eq_nil_of_length_eq_zero h4.length.symm
        rw [hn, List.append_nil] at q
        exact q.val rfl _ H (Same.refl _) (old h1 h2 hx)
    · cases e
  · cases e
theorem f2_sub : Op2 K (rI0 fun i j => .int (i - j)) subF := by
  intro O H x y dx dy d b Q hO hx hy e q
  unfold subF at e
  split at e
  · cases e
    cases hx.int; cases hy.int
    exact ⟨_, _, rfl, rfl, q.i⟩
  · cases e
theorem Reps.rep {S : Hp} {ds : List D} {vs : List V} (h : Reps K S ds vs) : ∀ n : Nat, Reps K S (List.replicate n ds).flatten (List.replicate n vs).flatten
  | 0 => by simp [Reps.nil]
  | n + 1 => by
    simp only [List.replicate_succ, List.flatten_cons]
    exact h.append (Reps.rep h n)
theorem f2_mul : Op2 K (fun x y H Q => rI CMulW (fun i j => .int (i * j)) x y H Q ∨ rRepL K x y H Q) mulF := by
  intro O H x y dx dy d b Q hO hx hy e q
  unfold mulF at e
  split at e
  · split at e
    · rename_i hz
      cases e
      cases hx.int; cases hy.int
      exact .inl ⟨_, _, rfl, rfl, hz, q.i⟩
    · cases e
  · split at e
    · rename_i hz
      cases e
      cases hy.int
      obtain ⟨a, vs, rfl, h1, h2⟩ := hx.lst
      exact .inr ⟨a, _, vs, rfl, rfl, h1, hz.1, hz.2.1, by rw [h2.length]; exact hz.2.2, q.l (h2.rep _)⟩
    · cases e
  · cases e
theorem f2_div : Op2 K (rI CDivW fun i j => .int (i / j)) divF := by
  intro O H x y dx dy d b Q hO hx hy e q
  unfold divF at e
  split at e
  · split at e
    · rename_i hz
      cases e
      cases hx.int; cases hy.int
      exact ⟨_, _, rfl, rfl, hz, q.i⟩
    · cases e
  · cases e
theorem f2_mod : Op2 K (rI (fun _ j => 0 < j) fun i j => .int (i % j)) modF := by
  intro O H x y dx dy d b Q hO hx hy e q
  unfold modF at e
  split at e
  · split at e
    · rename_i hz
      cases e
      cases hx.int; cases hy.int
      exact ⟨_, _, rfl, rfl, hz, q.i⟩
    · cases e
  · cases e
theorem f2_pow : Op2 K (rI CPow fun i j => .int (i ^ j.toNat)) powF := by
  intro O H x y dx dy d b Q hO hx hy e q
  unfold powF at e
  split at e
  · split at e
    · rename_i hz
      cases e
      cases hx.int; cases hy.int
      exact ⟨_, _, rfl, rfl, hz, q.i⟩
    · cases e
  · cases e
theorem f2_cmp {f : Int → Int → Bool} : Op2 K (rI0 fun i j => .bl (f i j)) (cmpF f) := by
  intro O H x y dx dy d b Q hO hx hy e q
  unfold cmpF at e
  split at e
  · cases e
    cases hx.int; cases hy.int
    exact ⟨_, _, rfl, rfl, q.b⟩
  · cases e
end
def ltF : D → D → Option (D × Bool) := cmpF fun i j => decide (i < j)
def leF : D → D → Option (D × Bool) := cmpF fun i j => decide (i ≤ j)
def gtF : D → D → Option (D × Bool) := cmpF fun i j => decide (j < i)
def geF : D → D → Option (D × Bool) := cmpF fun i j => decide (j ≤ i)
def negF : D → Option (D × Bool)
  | .int i => some (.int (-i), false)
  | _ => none
theorem f1_neg {K : PySem.W.Frag} : Op1 K (rU fun i => .int (-i)) negF := by
  intro O H x dx d b Q hO hx e q
  unfold negF at e
  split at e
  · cases e
    cases hx.int
    exact ⟨_, rfl, q.i⟩
  · cases e

/-! ### equality of data -/
mutual
def D.toP : D → Option PyData
  | .non => some .none
  | .bl b => some (.bool b)
  | .int i => some (.int i)
  | .str x => some (.str x)
  | .tup ds => (D.toPs ds).map .tuple
  | .lst ds => (D.toPs ds).map .list
  | .dic _ _ => none
  | .set _ => none
def D.toPs : List D → Option (List PyData)
  | [] => some []
  | d :: ds => match D.toP d, D.toPs ds with
    | some p, some ps => some (p :: ps)
    | _, _ => none
end
mutual
/-- == -/
def D.eqv : D → D → Bool
  | .non, .non => true
  | .bl a, .bl b => a == b
  | .bl a, .int j => (if a then 1 else 0) == j
  | .int i, .bl b => i == (if b then 1 else 0)
  | .int i, .int j => i == j
  | .str x, .str y => x == y
  | .lst xs, .lst ys => D.eqvs xs ys
  | .tup xs, .tup ys => D.eqvs xs ys
  | _, _ => false
def D.eqvs : List D → List D → Bool
  | [], [] => true
  | x :: xs, y :: ys => D.eqv x y && D.eqvs xs ys
  | _, _ => false
end
mutual
/-- no dict, good texts, not too deep -/
def D.plain : Nat → D → Bool
  | _, .non => true
  | _, .bl _ => true
  | _, .int _ => true
  | _, .str x => PyData.strOk x
  | n, .tup ds => match n with
    | 0 => false
    | n + 1 => D.plains n ds
  | n, .lst ds => match n with
    | 0 => false
    | n + 1 => D.plains n ds
  | _, .dic _ _ => false
  | _, .set _ => false
def D.plains : Nat → List D → Bool
  | _, [] => true
  | n, d :: ds => D.plain n d && D.plains n ds
end
mutual
theorem toP_of : ∀ (n : Nat) (d : D), D.plain n d = true → ∃ p, D.toP d = some p ∧ p.canLay0 = true ∧ p.depth ≤ n
  | n, .non, _ => ⟨_, rfl, by simp [PyData.canLay0], by simp [PyData.depth]⟩
  | n, .bl _, _ => ⟨_, rfl, by simp [PyData.canLay0], by simp [PyData.depth]⟩
  | n, .int _, _ => ⟨_, rfl, by simp [PyData.canLay0], by simp [PyData.depth]⟩
  | n, .str x, h => ⟨_, rfl, by simpa [PyData.canLay0, D.plain] using h, by simp [PyData.depth]⟩
  | 0, .tup ds, h => by simp [D.plain] at h
  | n + 1, .tup ds, h => by
    obtain ⟨ps, h1, h2, h3⟩ := toPs_of n ds (by simpa [D.plain] using h)
    exact ⟨.tuple ps, by simp [D.toP, h1], by simpa [PyData.canLay0] using h2, by simpa [PyData.depth] using h3⟩
  | 0, .lst ds, h => by simp [D.plain] at h
  | n + 1, .lst ds, h => by
    obtain ⟨ps, h1, h2, h3⟩ := toPs_of n ds (by simpa [D.plain] using h)
    exact ⟨.list ps, by simp [D.toP, h1], by simpa [PyData.canLay0] using h2, by simpa [PyData.depth] using h3⟩
  | n, .dic _ _, h => by simp [D.plain] at h
  | n, .set _, h => by simp [D.plain] at h
theorem toPs_of : ∀ (n : Nat) (ds : List D), D.plains n ds = true → ∃ ps, D.toPs ds = some ps ∧ PyData.canLayAll0 ps = true ∧ PyData.depthAll ps ≤ n
  | n, [], _ => ⟨[], rfl, by simp [PyData.canLayAll0], by simp [PyData.depthAll]⟩
  | n, d :: ds, h => by
    simp only [D.plains, Bool.and_eq_true] at h
    obtain ⟨p, h1, h2, h3⟩ := toP_of n d h.1
    obtain ⟨ps, h4, h5, h6⟩ := toPs_of n ds h.2
    exact ⟨p :: ps, by simp [D.toPs, h1, h4], by simp [PyData.canLayAll0, h2, h5], by simp [PyData.depthAll]; omega⟩
end
section
variable {K : PySem.W.Frag} {S H : Hp}
mutual
theorem dp_of (s : Same S H) : ∀ {d : D} {p : PyData} {v : V}, D.toP d = some p → Rep K S d v → Dp K H v p
  | .non, _, _, e, h => by cases e; simp only [Rep] at h; subst h; exact .non
  | .bl b, _, _, e, h => by cases e; simp only [Rep] at h; subst h; exact .bl _
  | .int i, _, _, e, h => by cases e; simp only [Rep] at h; subst h; exact .int _
  | .str x, _, _, e, h => by cases e; simp only [Rep] at h; subst h; exact .str _
  | .tup ds, _, _, e, h => by
    simp only [Rep] at h
    obtain ⟨a, vs, rfl, h1, h2⟩ := h
    unfold D.toP at e
    cases e2 : D.toPs ds with
    | none => rw [e2] at e; cases e
    | some ps =>
      rw [e2] at e
      cases e
      exact .tup (sameT s h1) (dps_of s e2 h2)
  | .lst ds, _, _, e, h => by
    simp only [Rep] at h
    obtain ⟨a, vs, rfl, h1, h2⟩ := h
    unfold D.toP at e
    cases e2 : D.toPs ds with
    | none => rw [e2] at e; cases e
    | some ps =>
      rw [e2] at e
      cases e
      exact .lst (s.seq h1) (dps_of s e2 h2)
  | .dic _ _, _, _, e, _ => by cases e
  | .set _, _, _, e, _ => by cases e
theorem dps_of (s : Same S H) : ∀ {ds : List D} {ps : List PyData} {vs : List V}, D.toPs ds = some ps → Reps K S ds vs → DpAll K H vs ps
  | [], _, _, e, h => by cases e; cases Reps.nil_iff.mp h; exact .nil
  | d :: ds, _, _, e, h => by
    obtain ⟨v, r, rfl, h1, h2⟩ := Reps.cons_iff.mp h
    unfold D.toPs at e
    cases e1 : D.toP d with
    | none => rw [e1] at e; cases e
    | some p =>
      cases e2 : D.toPs ds with
      | none => rw [e1, e2] at e; cases e
      | some ps =>
        rw [e1, e2] at e
        cases e
        exact .cons (dp_of s e1 h1) (dps_of s e2 h2)
end
end
theorem Vw.dp {K : PySem.W.Frag} {O : Addr → Prop} {H : Hp} {d : D} {p : PyData} {v : V} (h : Vw K (hid O H) H d v) (e : D.toP d = some p) : Dp K H v p := by
  rcases h with h | ⟨a, o, rfl, ho, h⟩
  · exact dp_of hid_same e h
  · cases d <;> cases o <;> simp only [RepO] at h
    rename_i ds vs
    unfold D.toP at e
    cases e2 : D.toPs ds with
    | none => rw [e2] at e; cases e
    | some ps =>
      rw [e2] at e
      cases e
      exact .lst (SqL.of ho) (dps_of hid_same e2 h)
mutual
theorem eqv_toP : ∀ {d e : D} {p q : PyData}, D.toP d = some p → D.toP e = some q → PyData.eqv p q = D.eqv d e
  | .tup ds, .tup es, p, q, h1, h2 => by
    unfold D.toP at h1 h2
    cases e1 : D.toPs ds with
    | none => rw [e1] at h1; cases h1
    | some ps =>
      cases e2 : D.toPs es with
      | none => rw [e2] at h2; cases h2
      | some qs =>
        rw [e1] at h1; rw [e2] at h2
        cases h1; cases h2
        simp only [PyData.eqv, D.eqv]
        exact eqv_toPs e1 e2
  | .lst ds, .lst es, p, q, h1, h2 => by
    unfold D.toP at h1 h2
    cases e1 : D.toPs ds with
    | none => rw [e1] at h1; cases h1
    | some ps =>
      cases e2 : D.toPs es with
      | none => rw [e2] at h2; cases h2
      | some qs =>
        rw [e1] at h1; rw [e2] at h2
        cases h1; cases h2
        simp only [PyData.eqv, D.eqv]
        exact eqv_toPs e1 e2
  | .non, e, p, q, h1, h2 => by
    cases h1
    cases e <;> simp only [D.toP, Option.map_eq_some_iff, Option.some.injEq, reduceCtorEq] at h2 <;> (try obtain ⟨_, _, h2⟩ := h2) <;> (try subst h2) <;> simp only [PyData.eqv, D.eqv]
  | .bl _, e, p, q, h1, h2 => by
    cases h1
    cases e <;> simp only [D.toP, Option.map_eq_some_iff, Option.some.injEq, reduceCtorEq] at h2 <;> (try obtain ⟨_, _, h2⟩ := h2) <;> (try subst h2) <;> simp only [PyData.eqv, D.eqv]
  | .int _, e, p, q, h1, h2 => by
    cases h1
    cases e <;> simp only [D.toP, Option.map_eq_some_iff, Option.some.injEq, reduceCtorEq] at h2 <;> (try obtain ⟨_, _, h2⟩ := h2) <;> (try subst h2) <;> simp only [PyData.eqv, D.eqv]
  | .str _, e, p, q, h1, h2 => by
    cases h1
    cases e <;> simp only [D.toP, Option.map_eq_some_iff, Option.some.injEq, reduceCtorEq] at h2 <;> (try obtain ⟨_, _, h2⟩ := h2) <;> (try subst h2) <;> simp only [PyData.eqv, D.eqv]
  | .tup _, .non, p, q, h1, h2 => by
    simp only [D.toP, Option.map_eq_some_iff, Option.some.injEq, reduceCtorEq] at h1 h2
    try (obtain ⟨_, _, h1⟩ := h1; subst h1)
    try (obtain ⟨_, _, h2⟩ := h2)
    try subst h2
    try simp only [PyData.eqv, D.eqv]
  | .tup _, .bl _, p, q, h1, h2 => by
    simp only [D.toP, Option.map_eq_some_iff, Option.some.injEq, reduceCtorEq] at h1 h2
    try (obtain ⟨_, _, h1⟩ := h1; subst h1)
    try (obtain ⟨_, _, h2⟩ := h2)
    try subst h2
    try simp only [PyData.eqv, D.eqv]
  | .tup _, .int _, p, q, h1, h2 => by
    simp only [D.toP, Option.map_eq_some_iff, Option.some.injEq, reduceCtorEq] at h1 h2
    try (obtain ⟨_, _, h1⟩ := h1; subst h1)
    try (obtain ⟨_, _, h2⟩ := h2)
    try subst h2
    try simp only [PyData.eqv, D.eqv]
  | .tup _, .str _, p, q, h1, h2 => by
    simp only [D.toP, Option.map_eq_some_iff, Option.some.injEq, reduceCtorEq] at h1 h2
    try (obtain ⟨_, _, h1⟩ := h1; subst h1)
    try (obtain ⟨_, _, h2⟩ := h2)
    try subst h2
    try simp only [PyData.eqv, D.eqv]
  | .tup _, .lst _, p, q, h1, h2 => by
    simp only [D.toP, Option.map_eq_some_iff, Option.some.injEq, reduceCtorEq] at h1 h2
    try (obtain ⟨_, _, h1⟩ := h1; subst h1)
    try (obtain ⟨_, _, h2⟩ := h2)
    try subst h2
    try simp only [PyData.eqv, D.eqv]
  | .tup _, .dic _ _, p, q, h1, h2 => by
    simp only [D.toP, Option.map_eq_some_iff, Option.some.injEq, reduceCtorEq] at h1 h2
    try (obtain ⟨_, _, h1⟩ := h1; subst h1)
    try (obtain ⟨_, _, h2⟩ := h2)
    try subst h2
    try simp only [PyData.eqv, D.eqv]
  | .tup _, .set _, p, q, h1, h2 => by
    simp only [D.toP, Option.map_eq_some_iff, Option.some.injEq, reduceCtorEq] at h1 h2
    try (obtain ⟨_, _, h1⟩ := h1; subst h1)
    try (obtain ⟨_, _, h2⟩ := h2)
    try subst h2
    try simp only [PyData.eqv, D.eqv]
  | .lst _, .non, p, q, h1, h2 => by
    simp only [D.toP, Option.map_eq_some_iff, Option.some.injEq, reduceCtorEq] at h1 h2
    try (obtain ⟨_, _, h1⟩ := h1; subst h1)
    try (obtain ⟨_, _, h2⟩ := h2)
    try subst h2
    try simp only [PyData.eqv, D.eqv]
  | .lst _, .bl _, p, q, h1, h2 => by
    simp only [D.toP, Option.map_eq_some_iff, Option.some.injEq, reduceCtorEq] at h1 h2
    try (obtain ⟨_, _, h1⟩ := h1; subst h1)
    try (obtain ⟨_, _, h2⟩ := h2)
    try subst h2
    try simp only [PyData.eqv, D.eqv]
  | .lst _, .int _, p, q, h1, h2 => by
    simp only [D.toP, Option.map_eq_some_iff, Option.some.injEq, reduceCtorEq] at h1 h2
    try (obtain ⟨_, _, h1⟩ := h1; subst h1)
    try (obtain ⟨_, _, h2⟩ := h2)
    try subst h2
    try simp only [PyData.eqv, D.eqv]
  | .lst _, .str _, p, q, h1, h2 => by
    simp only [D.toP, Option.map_eq_some_iff, Option.some.injEq, reduceCtorEq] at h1 h2
    try (obtain ⟨_, _, h1⟩ := h1; subst h1)
    try (obtain ⟨_, _, h2⟩ := h2)
    try subst h2
    try simp only [PyData.eqv, D.eqv]
  | .lst _, .tup _, p, q, h1, h2 => by
    simp only [D.toP, Option.map_eq_some_iff, Option.some.injEq, reduceCtorEq] at h1 h2
    try (obtain ⟨_, _, h1⟩ := h1; subst h1)
    try (obtain ⟨_, _, h2⟩ := h2)
    try subst h2
    try simp only [PyData.eqv, D.eqv]
  | .lst _, .dic _ _, p, q, h1, h2 => by
    simp only [D.toP, Option.map_eq_some_iff, Option.some.injEq, reduceCtorEq] at h1 h2
    try (obtain ⟨_, _, h1⟩ := h1; subst h1)
    try (obtain ⟨_, _, h2⟩ := h2)
    try subst h2
    try simp only [PyData.eqv, D.eqv]
  | .lst _, .set _, p, q, h1, h2 => by
    simp only [D.toP, Option.map_eq_some_iff, Option.some.injEq, reduceCtorEq] at h1 h2
    try (obtain ⟨_, _, h1⟩ := h1; subst h1)
    try (obtain ⟨_, _, h2⟩ := h2)
    try subst h2
    try simp only [PyData.eqv, D.eqv]
  | .dic _ _, _, _, _, h1, _ => by cases h1
  | .set _, _, _, _, h1, _ => by cases h1
theorem eqv_toPs : ∀ {d e : List D} {p q : List PyData}, D.toPs d = some p → D.toPs e = some q → PyData.eqvAll p q = D.eqvs d e
  | [], [], _, _, h1, h2 => by cases h1; cases h2; simp [PyData.eqvAll, D.eqvs]
  | x :: xs, y :: ys, p, q, h1, h2 => by
    unfold D.toPs at h1 h2
    cases e1 : D.toP x with
    | none => rw [e1] at h1; cases h1
    | some p1 =>
    cases e2 : D.toPs xs with
    | none => rw [e1, e2] at h1; cases h1
    | some ps =>
    cases e3 : D.toP y with
    | none => rw [e3] at h2; cases h2
    | some q1 =>
    cases e4 : D.toPs ys with
    | none => rw [e3, e4] at h2; cases h2
    | some qs =>
    rw [e1, e2] at h1; rw [e3, e4] at h2
    cases h1; cases h2
    simp only [PyData.eqvAll, D.eqvs, eqv_toP e1 e3, eqv_toPs e2 e4]
  | [], y :: ys, _, _, h1, h2 => by
    cases h1
    unfold D.toPs at h2
    split at h2
    · cases h2; simp only [PyData.eqvAll, D.eqvs]
    · cases h2
  | x :: xs, [], _, _, h1, h2 => by
    cases h2
    unfold D.toPs at h1
    split at h1
    · cases h1; simp only [PyData.eqvAll, D.eqvs]
    · cases h1
end
/-- how deep data may be that is compared -/
def deepest : Nat := 180
def eqF (neg : Bool) (d e : D) : Option (D × Bool) := if D.plain deepest d && D.plain deepest e then some (.bl (D.eqv d e != neg), false) else none
def rEqA (K : PySem.W.Frag) (neg : Bool) : R2 := fun x y H Q => ∃ d e, Dp K H x d ∧ Dp K H y e ∧ d.canLay0 = true ∧ e.canLay0 = true ∧ d.depth ≤ deepest ∧ Q (.bl (PyData.eqv d e != neg)) H
theorem f2_eq {K : PySem.W.Frag} {neg : Bool} : Op2 K (rEqA K neg) (eqF neg) := by
  intro O H x y dx dy d b Q hO hx hy e q
  unfold eqF at e
  split at e
  · rename_i hz
    rw [Bool.and_eq_true] at hz
    obtain ⟨p1, a1, a2, a3⟩ := toP_of _ _ hz.1
    obtain ⟨p2, b1, b2, b3⟩ := toP_of _ _ hz.2
    cases e
    refine ⟨p1, p2, hx.dp a1, hy.dp b1, a2, b2, a3, ?_⟩
    rw [eqv_toP a1 b1]
    exact q.b
  · cases e
section
variable {X : Cx}
theorem op_eqA {k : Nat} (hr : Room k X.A) : OpR X (compareOp .Eq) (rEqA X.K false) := by
  intro pins s σ H x y v u Q I rx ry h
  obtain ⟨d, e, hd, he, sd, se, hdp, q⟩ := h
  obtain ⟨as, r1⟩ := Dp.reads I d x v hd rx
  obtain ⟨bs, r2⟩ := Dp.reads I e y u he ry
  have hu : X.A.units + min d.depth e.depth < cLine := by
    have h1 := hr.un
    have h2 : d.depth ≤ 180 := hdp
    omega
  exact SeqAt.compareEq_reads r1 r2 sd se hu ⟨.bl _, H, I, (by cases PyData.eqv d e <;> rfl), q⟩
theorem op_neA {k : Nat} (hr : Room k X.A) : OpR X (compareOp .NotEq) (rEqA X.K true) := by
  intro pins s σ H x y v u Q I rx ry h
  obtain ⟨d, e, hd, he, sd, se, hdp, q⟩ := h
  obtain ⟨as, r1⟩ := Dp.reads I d x v hd rx
  obtain ⟨bs, r2⟩ := Dp.reads I e y u he ry
  have hu : X.A.units + min d.depth e.depth < cLine := by
    have h1 := hr.un
    have h2 : d.depth ≤ 180 := hdp
    omega
  exact SeqAt.compareNe_reads r1 r2 sd se hu ⟨.bl _, H, I, (by cases PyData.eqv d e <;> rfl), q⟩
end

/-! ### is None, is True -/
def isF (neg : Bool) : D → D → Option (D × Bool)
  | d, .non => some (.bl ((match d with | .non => true | _ => false) != neg), false)
  | .bl a, .bl b => if neg then none else some (.bl (decide (a = b)), false)
  | _, _ => none
section
variable {K : PySem.W.Frag} {X : Cx}
theorem Vw.non_iff {O : Addr → Prop} {H : Hp} {d : D} {v : V} (h : Vw K (hid O H) H d v) : decide (v = .non) = (match d with | .non => true | _ => false) := by
  cases d with
  | non => cases h.non; rfl
  | bl b => cases h.bl; rfl
  | int b => cases h.int; rfl
  | str b => cases h.str; rfl
  | tup b => obtain ⟨a, vs, rfl, _⟩ := h.tup; rfl
  | lst b => obtain ⟨a, vs, rfl, _⟩ := h.lst; rfl
  | dic a b => rcases h with h | ⟨_, _, rfl, _⟩; · simp only [Rep] at h
               · rfl
  | set a => rcases h with h | ⟨_, _, rfl, _⟩; · simp only [Rep] at h
             · rfl
theorem opr_is : OpR X (compareOp .Is) (fun x y H Q => (y = .non ∧ Q (.bl (decide (x = .non))) H) ∨ rIsB x y H Q) := op_isN.or op_isBl
theorem f2_is : Op2 K (fun x y H Q => (y = .non ∧ Q (.bl (decide (x = .non))) H) ∨ rIsB x y H Q) (isF false) := by
  intro O H x y dx dy d b Q hO hx hy e q
  unfold isF at e
  split at e
  · cases e
    refine .inl ⟨hy.non, ?_⟩
    rw [hx.non_iff]
    have := q.b
    revert this
    cases dx <;> exact fun z => z
  · cases e
    exact .inr ⟨_, _, hx.bl, hy.bl, q.b⟩
  · cases e
theorem f2_isnot : Op2 K (fun x y H Q => y = .non ∧ Q (.bl (!decide (x = .non))) H) (isF true) := by
  intro O H x y dx dy d b Q hO hx hy e q
  unfold isF at e
  split at e
  · cases e
    refine ⟨hy.non, ?_⟩
    rw [hx.non_iff]
    have := q.b
    revert this
    cases dx <;> exact fun z => z
  · cases e
  · cases e
end

/-! ### items, lengths -/
def idxF : D → D → Option (D × Bool)
  | .lst ds, .int i => (atI ds i).map fun d => (d, false)
  | .tup ds, .int i => (atI ds i).map fun d => (d, false)
  | .str x, .int i => if x.length ≤ sizeLine then (atI x.cps.toList i).map fun c => (.str ⟨#[c]⟩, false) else none
  | _, _ => none
section
variable {K : PySem.W.Frag}
theorem atI_reps {S : Hp} {ds : List D} {vs : List V} {i : Int} {d : D} (h : Reps K S ds vs) (e : atI ds i = some d) : ∃ v, atI vs i = some v ∧ Rep K S d v := by
  unfold atI at e ⊢
  rw [h.length]
  cases hx : ixN ds.length i with
  | none => rw [hx] at e; cases e
  | some j =>
    rw [hx] at e
    exact h.get e
theorem f2_idx : Op2 K (rIx K) idxF := by
  intro O H x y dx dy d b Q hO hx hy e q
  unfold idxF at e
  split at e
  · obtain ⟨e0, e1, e2⟩ := Option.map_eq_some_iff.mp e
    cases e2
    cases hy.int
    obtain ⟨a, vs, rfl, h1, h2⟩ := hx.lst
    obtain ⟨v, q1, q2⟩ := atI_reps h2 e1
    exact .inl ⟨a, vs, _, v, rfl, rfl, h1, q1, q.val rfl v H (Same.refl _) q2⟩
  · obtain ⟨e0, e1, e2⟩ := Option.map_eq_some_iff.mp e
    cases e2
    cases hy.int
    obtain ⟨a, vs, rfl, h1, h2⟩ := hx.tup
    obtain ⟨v, q1, q2⟩ := atI_reps h2 e1
    exact .inr (.inl ⟨a, vs, _, v, rfl, rfl, h1, q1, q.val rfl v H (Same.refl _) q2⟩)
  · split at e
    · rename_i hz
      obtain ⟨e0, e1, e2⟩ := Option.map_eq_some_iff.mp e
      cases e2
      cases hy.int; cases hx.str
      exact .inr (.inr ⟨_, _, _, rfl, rfl, hz, e1, q.s⟩)
    · cases e
  · cases e
def lenF : List D → Option (D × Bool)
  | [.lst ds] => some (.int ds.length, false)
  | [.tup ds] => some (.int ds.length, false)
  | [.str x] => if x.length ≤ sizeLine then some (.int x.length, false) else none
  | _ => none
theorem fn_len : OpN K (fun xs H Q => ∃ x n, xs = [x] ∧ LenV K x H n ∧ Q (.int n) H) lenF := by
  intro O H xs ds d b Q hO h e q
  unfold lenF at e
  split at e
  · cases e
    obtain ⟨v, rfl, hv⟩ := h.one
    obtain ⟨a, vs, rfl, h1, h2⟩ := hv.lst
    refine ⟨_, vs.length, rfl, .inl ⟨vs, h1, rfl⟩, ?_⟩
    rw [h2.length]; exact q.i
  · cases e
    obtain ⟨v, rfl, hv⟩ := h.one
    obtain ⟨a, vs, rfl, h1, h2⟩ := hv.tup
    refine ⟨_, vs.length, rfl, .inr ⟨vs, h1, rfl⟩, ?_⟩
    rw [h2.length]; exact q.i
  · split at e
    · rename_i hz
      cases e
      obtain ⟨v, rfl, hv⟩ := h.one
      cases hv.str
      exact ⟨_, _, rfl, ⟨hz, rfl⟩, q.i⟩
    · cases e
  · cases e

/-! ### sum, list(), tuple(), int(), abs, min, max -/
def nums : List D → Option (List Int)
  | [] => some []
  | .int i :: ds => (nums ds).map (i :: ·)
  | _ :: _ => none
theorem nums_map : ∀ {ds : List D} {ns : List Int}, nums ds = some ns → ds = ns.map .int
  | [], _, e => by cases e; rfl
  | .int i :: ds, _, e => by
    obtain ⟨ms, h1, rfl⟩ := Option.map_eq_some_iff.mp e
    rw [nums_map h1]; rfl
  | .non :: _, _, e => by cases e
  | .bl _ :: _, _, e => by cases e
  | .str _ :: _, _, e => by cases e
  | .tup _ :: _, _, e => by cases e
  | .lst _ :: _, _, e => by cases e
  | .dic _ _ :: _, _, e => by cases e
  | .set _ :: _, _, e => by cases e
theorem nums_of : ∀ (ns : List Int), nums (ns.map D.int) = some ns
  | [] => rfl
  | n :: ns => by show (nums (ns.map D.int)).map _ = _; rw [nums_of ns]; rfl
theorem Reps.ints {S : Hp} : ∀ {ns : List Int} {vs : List V}, Reps K S (ns.map .int) vs → vs = ns.map V.int
  | [], _, h => Reps.nil_iff.mp h
  | n :: ns, _, h => by
    obtain ⟨v, r, rfl, h1, h2⟩ := Reps.cons_iff.mp h
    rw [rep_int h1, Reps.ints h2]; rfl
def rSumT (K : PySem.W.Frag) : List V → Hp → VK → Prop := fun vs H Q => ∃ (a : Addr) (ns : List Int), vs = [V.ref a] ∧ SqT K H a (ns.map V.int) ∧ Q (.int ns.sum) H
theorem cr_sumT {X : Cx} (hc : X.calm = true) : CallR X (.builtin "sum") (rSumT X.K) := by
  intro pins s σ H vs us Q I r h
  obtain ⟨a, ns, rfl, hs, q⟩ := h
  obtain ⟨its, rv, hl, _⟩ := I.tuple hs
  rw [Vals.ref1 r]
  have hi := rv.ints
  obtain ⟨xs, e⟩ := hi.allInts.items
  have hn : numsOf (intItems xs).toList = ns := by rw [← e]; exact hi.numsOf
  rw [nums_intItems] at hn
  have hl2 : s.heap.IsTuple a (intItems xs) := by
    obtain ⟨o, h1, h2, n, h3⟩ := hl
    exact ⟨o, h1, h2, n, by rw [← e]; exact h3⟩
  refine PySem.W.ktm_sumG (I.ok.hd hc) hl2 fun h' tk t' hk => ?_
  refine ⟨.int ns.sum, H, I.kept hk, ⟨t', ?_⟩, q⟩
  rw [preSum_eq, List.take_of_length_le (by simp), hn]
theorem CallR.or {X : Cx} {f : Value} {r r' : List V → Hp → VK → Prop} (h : CallR X f r) (h' : CallR X f r') : CallR X f (fun xs H Q => r xs H Q ∨ r' xs H Q) := fun pins s σ H vs us Q I rv q =>
  q.elim (h pins s σ H vs us Q I rv) (h' pins s σ H vs us Q I rv)
def sumF : List D → Option (D × Bool)
  | [.lst ds] => (nums ds).map fun ns => (.int ns.sum, false)
  | [.tup ds] => (nums ds).map fun ns => (.int ns.sum, false)
  | _ => none
theorem fn_sum : OpN K (fun xs H Q => rSum K xs H Q ∨ rSumT K xs H Q) sumF := by
  intro O H xs ds d b Q hO h e q
  unfold sumF at e
  split at e
  · obtain ⟨ns, h1, h2⟩ := Option.map_eq_some_iff.mp e
    cases h2
    obtain ⟨v, rfl, hv⟩ := h.one
    obtain ⟨a, vs, rfl, h3, h4⟩ := hv.lst
    rw [nums_map h1] at h4
    rw [h4.ints] at h3
    exact .inl ⟨a, ns, rfl, h3, q.i⟩
  · obtain ⟨ns, h1, h2⟩ := Option.map_eq_some_iff.mp e
    cases h2
    obtain ⟨v, rfl, hv⟩ := h.one
    obtain ⟨a, vs, rfl, h3, h4⟩ := hv.tup
    rw [nums_map h1] at h4
    rw [h4.ints] at h3
    exact .inr ⟨a, ns, rfl, h3, q.i⟩
  · cases e
def listF : List D → Option (D × Bool)
  | [.lst ds] => some (.lst ds, true)
  | [.tup ds] => some (.lst ds, true)
  | _ => none
theorem fn_list : OpN K (fun xs H Q => ∃ p ys, xs = [.ref p] ∧ (SqL K H p ys ∨ SqT K H p ys) ∧ ∀ l, H l = none → Q (.ref l) (upd H l (.lst ys))) listF := by
  intro O H xs ds d b Q hO h e q
  unfold listF at e
  split at e
  · cases e
    obtain ⟨v, rfl, hv⟩ := h.one
    obtain ⟨a, vs, rfl, h3, h4⟩ := hv.lst
    exact ⟨a, vs, rfl, .inl h3, q.l h4⟩
  · cases e
    obtain ⟨v, rfl, hv⟩ := h.one
    obtain ⟨a, vs, rfl, h3, h4⟩ := hv.tup
    exact ⟨a, vs, rfl, .inr h3, q.l h4⟩
  · cases e
def tupleF : List D → Option (D × Bool)
  | [.lst ds] => some (.tup ds, false)
  | [.tup ds] => some (.tup ds, false)
  | _ => none
theorem fn_tuple : OpN K (fun xs H Q => ∃ p ys, xs = [.ref p] ∧ ((SqL K H p ys ∧ ∀ l, H l = none → Q (.ref l) (upd H l (.tup ys))) ∨ (SqT K H p ys ∧ Q (.ref p) H))) tupleF := by
  intro O H xs ds d b Q hO h e q
  unfold tupleF at e
  split at e
  · cases e
    obtain ⟨v, rfl, hv⟩ := h.one
    obtain ⟨a, vs, rfl, h3, h4⟩ := hv.lst
    exact ⟨a, vs, rfl, .inl ⟨h3, q.t hO h4⟩⟩
  · cases e
    obtain ⟨v, rfl, hv⟩ := h.one
    have hv2 := hv
    obtain ⟨a, vs, rfl, h3, h4⟩ := hv.tup
    refine ⟨a, vs, rfl, .inr ⟨h3, q.val rfl _ H (Same.refl _) ?_⟩⟩
    rcases hv2 with hv2 | ⟨a, o, _, _, hv2⟩
    · exact hv2
    · cases o <;> simp only [RepO] at hv2
  · cases e
def intF : List D → Option (D × Bool)
  | [.int i] => some (.int i, false)
  | [.bl k] => some (.int (if k then 1 else 0), false)
  | _ => none
theorem fn_int : OpN K (fun xs H Q => (∃ i, xs = [.int i] ∧ Q (.int i) H) ∨ ∃ k, xs = [.bl k] ∧ Q (.int (if k then 1 else 0)) H) intF := by
  intro O H xs ds d b Q hO h e q
  unfold intF at e
  split at e
  · cases e
    obtain ⟨v, rfl, hv⟩ := h.one
    cases hv.int
    exact .inl ⟨_, rfl, q.i⟩
  · cases e
    obtain ⟨v, rfl, hv⟩ := h.one
    cases hv.bl
    exact .inr ⟨_, rfl, q.i⟩
  · cases e
def absF : List D → Option (D × Bool)
  | [.int i] => some (.int (if i < 0 then -i else i), false)
  | _ => none
theorem fn_abs : OpN K (fun xs H Q => ∃ i, xs = [.int i] ∧ Q (.int (if i < 0 then -i else i)) H) absF := by
  intro O H xs ds d b Q hO h e q
  unfold absF at e
  split at e
  · cases e
    obtain ⟨v, rfl, hv⟩ := h.one
    cases hv.int
    exact ⟨_, rfl, q.i⟩
  · cases e
def minF : List D → Option (D × Bool)
  | [.int i, .int j] => some (.int (if j < i then j else i), false)
  | _ => none
theorem fn_min : OpN K (fun xs H Q => ∃ i j, xs = [.int i, .int j] ∧ Q (.int (if j < i then j else i)) H) minF := by
  intro O H xs ds d b Q hO h e q
  unfold minF at e
  split at e
  · cases e
    obtain ⟨v, w, rfl, hv, hw⟩ := h.two
    cases hv.int; cases hw.int
    exact ⟨_, _, rfl, q.i⟩
  · cases e
def maxF : List D → Option (D × Bool)
  | [.int i, .int j] => some (.int (if j > i then j else i), false)
  | _ => none
theorem fn_max : OpN K (fun xs H Q => ∃ i j, xs = [.int i, .int j] ∧ Q (.int (if j > i then j else i)) H) maxF := by
  intro O H xs ds d b Q hO h e q
  unfold maxF at e
  split at e
  · cases e
    obtain ⟨v, w, rfl, hv, hw⟩ := h.two
    cases hv.int; cases hw.int
    exact ⟨_, _, rfl, q.i⟩
  · cases e
end
end G
namespace G
open PySem PySem.Spec PyProof.Rows L2

/-! ### changing an own object -/
section
variable {K : PySem.W.Frag} {st : SS} {σ : L2.St} {H : Hp} {P : Addr → Prop}
/-- the object of slot i is changed -/
theorem Rel.write {i : Nat} {l : Bool} {d d' : D} {a : Addr} {o : HO} (R0 : Rel K st σ H P) (e : st[i]? = some (.ow l d)) (ea : σ[i]? = some (some (.ref a))) (ro : RepO K (Sh st σ P H) d' o) :
    Rel K (st.set i (.ow l d')) σ (upd H a o) P ∧ Gr st (st.set i (.ow l d')) σ P P H (upd H a o) := by
  have hi : i < st.length := (List.getElem?_eq_some_iff.mp e).1
  have oi : OwAt st σ i a := ⟨⟨_, _, e⟩, ea⟩
  have ow : ∀ j b, OwAt (st.set i (.ow l d')) σ j b ↔ OwAt st σ j b := fun j b => by
    unfold OwAt
    by_cases hj : i = j
    · subst hj
      rw [List.getElem?_set_self hi, e]
      constructor
      · rintro ⟨_, h⟩; exact ⟨⟨_, _, rfl⟩, h⟩
      · rintro ⟨_, h⟩; exact ⟨⟨_, _, rfl⟩, h⟩
    · rw [List.getElem?_set_ne hj]
  have hd : ∀ b, Hd (st.set i (.ow l d')) σ P b ↔ Hd st σ P b := fun b => by
    unfold Hd Ow
    simp only [ow]
  have she : Sh (st.set i (.ow l d')) σ P (upd H a o) = Sh st σ P H := by
    have h1 : Sh (st.set i (.ow l d')) σ P (upd H a o) = Sh st σ P (upd H a o) := hid_congr hd
    rw [h1]
    exact sh_hidden (.inl ⟨i, oi⟩)
  refine ⟨⟨by rw [List.length_set]; exact R0.len, fun j d2 ej => ?_, fun j l2 d2 ej => ?_, fun j k b h h' => R0.sep j k b ((ow j b).mp h) ((ow k b).mp h'), fun b ⟨j, h⟩ => R0.sepP b ⟨j, (ow j b).mp h⟩, fun b hb => ?_⟩,
    ⟨by rw [she]; exact Same.refl _, fun b hb => ?_, by simp, fun j d2 ej => ?_⟩⟩
  · have hj : i ≠ j := fun z => by subst z; rw [List.getElem?_set_self hi] at ej; cases ej
    rw [List.getElem?_set_ne hj] at ej
    rw [she]; exact R0.val j d2 ej
  · by_cases hj : i = j
    · subst hj
      rw [List.getElem?_set_self hi] at ej; cases ej
      exact ⟨a, o, ea, upd_same, by rw [she]; exact ro⟩
    · rw [List.getElem?_set_ne hj] at ej
      obtain ⟨b, u, q1, q2, q3⟩ := R0.own j l2 d2 ej
      have hb : b ≠ a := fun z => by subst z; exact hj (R0.sep i j b oi ⟨⟨_, _, ej⟩, q1⟩)
      exact ⟨b, u, q1, by rw [upd_ne hb]; exact q2, by rw [she]; exact q3⟩
  · by_cases z : b = a
    · subst z; exact absurd hb (R0.sepP b ⟨i, oi⟩)
    · rw [upd_ne z]; exact R0.trk b hb
  · exact upd_ne fun z => by subst z; exact R0.sepP b ⟨i, oi⟩ hb
  · by_cases hj : i = j
    · subst hj
      rw [e] at ej; cases ej
      exact ⟨d', List.getElem?_set_self hi⟩
    · exact ⟨d2, by rw [List.getElem?_set_ne hj]; exact ej⟩
end
/-- xs.append(e) -/
def appU (i : Nat) (d : D) : R (D × Bool) := fun st => match st[i]? with
  | some (.ow l (.lst ds)) => if ds.length < sizeLine then some (.ok (.non, false), st.set i (.ow l (.lst (ds ++ [d])))) else none
  | _ => none
def appE (i : Nat) (m : R (List D)) : R (D × Bool) := fun st => match st[i]? with
  | some (.ow _ (.lst _)) => bnd m (fun ds => match ds with
    | [d] => appU i d
    | _ => stuck) st
  | _ => none
section
variable {X : Cx} {EX : EXT} {W : WX}
theorem se_append {i : Nat} {x : Str} {e : Expr} {m : R (List D)} {xp apos cpos : Pos} (hN : X.N[i]? = some x) (hv : Vis X.env.scope x) (ha : SL X EX W [e] m) (hd : (x == ("__debug__" : Str)) = false := by decide) (hcd : (x == ("__classdict__" : Str)) = false := by decide)
    (hbase : attributeBase (.Name x xp) ("append" : Str) X.env (eval (.Name x xp) X.env) = eval (.Name x xp) X.env := by rfl)
    (hfew : ((backTo cpos (starEach [e] X.env)).all (fun x => !x.1) && (backToKw cpos (keywordEach [] X.env)).all (fun x => x.1.isSome)
      && decide ([e].length + ([] : List Keyword).length + (if ([] : List Keyword).isEmpty then 0 else 1) < 30)) = true := by rfl)
    (hline : (apos.endLine == cpos.line) = true := by rfl) (hs : starEach [e] X.env = (false, eval e X.env) :: starEach [] X.env := by rfl) (hplain : (backTo cpos (starEach [] X.env)).any (·.1) = false := by rfl) :
    SE X EX W (.Call (.Attribute (.Name x xp) ("append" : Str) apos) [e] [] cpos) (appE i m) := by
  refine PE.weak (pe_bm PySem.F.plainAttrs_list PySem.F.slot_list_append PySem.F.type_list_append mt_append (pe_var hN hv hd hcd) ha hbase hfew hline hs hplain) fun σ H Q ⟨st, P, r, st', R0, hm, er, q⟩ => ?_
  unfold appE at hm
  split at hm
  · rename_i l0 ds0 e0
    obtain ⟨a, o, h1, h2, h3⟩ := R0.own i _ _ e0
    have hty : ∀ {vs}, o = .lst vs → tyV X.K "list" (.ref a) H := fun {vs} z => .inl ⟨rfl, vs, SqL.of (by rw [← z]; exact h2)⟩
    have ho : ∃ vs, o = .lst vs := by
      cases o <;> simp only [RepO] at h3
      exact ⟨_, rfl⟩
    obtain ⟨vs0, rfl⟩ := ho
    refine ⟨.ref a, h1, hty rfl, ?_⟩
    refine tR_step R0 hm er fun ds st1 vs H1 P1 ⟨hP, ok⟩ R1 g hk => ?_
    subst hP
    split at hk
    · rename_i dsx d hdx
      have ok1 : Reps X.K (Sh st1 σ P1 H1) [d] vs := ok
      obtain ⟨v, r2, rfl, r1, r3⟩ := Reps.cons_iff.mp ok1
      cases Reps.nil_iff.mp r3
      unfold appU at hk
      split at hk
      · rename_i l1 ds1 e1
        split at hk
        · rename_i hz
          cases hk
          obtain ⟨b, u, q1, q2, q3⟩ := R1.own i _ _ e1
          rw [h1] at q1; cases q1
          cases u <;> simp only [RepO] at q3
          rename_i us
          obtain ⟨R2, g2⟩ := R1.write (d' := .lst (ds1 ++ [d])) (o := .lst (us ++ [v])) e1 h1 (by simp only [RepO]; exact q3.append (Reps.one r1))
          refine ⟨a, us, v, rfl, rfl, q2, by rw [q3.length]; exact hz, ?_⟩
          exact q _ rfl .non _ P1 ⟨rfl, by simp only [Rep]⟩ R2 (g.trans g2)
        · cases hk
      · cases hk
    · cases hk
  · cases hm
/-- xs[k] = e, xs an own list: e first -/
def setU (i : Nat) (d : D) (k : D) : R Fl := fun st => match st[i]?, k with
  | some (.ow l (.lst ds)), .int j => match ixN ds.length j with
    | some n => some (.ok .nx, st.set i (.ow l (.lst (ds.set n d))))
    | none => none
  | _, _ => none
def setIx (i : Nat) (k : R PV) (m : R D) : R Fl := bnd m fun d => fun st => match st[i]? with
  | some (.ow _ (.lst _)) => bnd k (fun p => fun st => match rsv st p with
    | some x => setU i d x st
    | none => none) st
  | _ => none
theorem ss_setIx {i : Nat} {x : Str} {e ix : Expr} {m : R D} {k : R PV} {xp spos pos : Pos} (hN : X.N[i]? = some x) (hv : Vis X.env.scope x) (he : SD X EX W e m) (hk : SO X EX W ix k) (hd : (x == ("__debug__" : Str)) = false := by decide) (hcd : (x == ("__classdict__" : Str)) = false := by decide)
    (ha : ∀ v, assign (.Subscript (.Name x xp) ix spos) X.env v = (do
      let ov ← holding [v] (eval (.Name x xp) X.env)
      let iv ← holding [v, ov] (eval ix X.env)
      standAt spos
      holding [v, ov, iv] (setItem ov iv v)
      release [v, ov, iv] []) := by intro _; rfl)
    (hs : swapsWithSole [.Subscript (.Name x xp) ix spos] e pos.line X.env = pure false := by rfl) (hw : swappedStores [.Subscript (.Name x xp) ix spos] e X.env = pure none := by rfl)
    (h1 : (assignEach [.Subscript (.Name x xp) ix spos] X.env).map (·.2) = [assign (.Subscript (.Name x xp) ix spos) X.env] := by rfl) :
    SS1 X EX W (.Assign [.Subscript (.Name x xp) ix spos] e pos) (setIx i k m) := by
  refine PS.weak (ps_asg he (pg_sub (pe_var hN hv hd hcd) hk set_list ha) hs hw h1) fun D σ H ⟨st, P, r, st', R0, hm, en⟩ => ?_
  refine tR_step R0 hm en.err fun d st1 v H1 P1 ⟨hP, ok⟩ R1 g hk1 => ?_
  subst hP
  split at hk1
  · rename_i l0 ds0 e0
    obtain ⟨a, o, z1, z2, z3⟩ := R1.own i _ _ e0
    refine ⟨.ref a, z1, ?_⟩
    have en1 := en.shift g.s
    refine tR_step R1 hk1 en1.err fun p st2 u H2 P2 ⟨hP2, ok2⟩ R2 g2 hk2 => ?_
    subst hP2
    split at hk2
    · rename_i x ex
      unfold setU at hk2
      split at hk2
      · rename_i l ds j e2
        split at hk2
        · rename_i n en2
          cases hk2
          obtain ⟨b, w, q1, q2, q3⟩ := R2.own i _ _ e2
          rw [z1] at q1; cases q1
          cases w <;> simp only [RepO] at q3
          rename_i us
          cases (rsv_vw R2 ok2 ex).int
          have rd : Rep X.K (Sh st2 σ P2 H2) d v := Rep.mono g2.same ok
          obtain ⟨R3, g3⟩ := R2.write (d' := .lst (ds.set n d)) (o := .lst (us.set n v)) e2 z1 (by simp only [RepO]; exact q3.set rd n)
          exact ⟨a, us, j, n, rfl, rfl, q2, by rw [q3.length]; exact en2, (en1.shift g2.s).1 rfl σ _ R3 g3.s⟩
        · cases hk2
      · cases hk2
    · cases hk2
  · cases hk1

/-! ### x, y, .. = e1, e2, ..: all, then each is stored -/
/-- values and new objects in a row -/
def FsOk (K : PySem.W.Frag) (S H : Hp) : List (D × Bool) → List V → List Addr → Prop
  | [], vs, xs => vs = [] ∧ xs = []
  | (d, false) :: as, vs, xs => ∃ v r, vs = v :: r ∧ Rep K S d v ∧ FsOk K S H as r xs
  | (d, true) :: as, vs, xs => ∃ x o r ys, vs = .ref x :: r ∧ xs = x :: ys ∧ H x = some o ∧ RepO K S d o ∧ FsOk K S H as r ys
def okFs (K : PySem.W.Frag) : OkR (List (D × Bool)) (List V) := fun as st' σ P P' vs H' => ∃ xs : List Addr, xs.Nodup ∧ (∀ x ∈ xs, ¬ P x) ∧ P' = (fun y => P y ∨ y ∈ xs) ∧ FsOk K (Sh st' σ P' H') H' as vs xs
def SFs (X : Cx) (EX : EXT) (W : WX) (es : List Expr) (m : R (List (D × Bool))) : Prop := PA X es (tR X.K EX W (okFs X.K) m)
def fsN : R (List (D × Bool)) := ret []
def fsC (a : R (D × Bool)) (r : R (List (D × Bool))) : R (List (D × Bool)) := bnd a fun p => bnd r fun ps => ret (p :: ps)
theorem FsOk.mono {K : PySem.W.Frag} {S S' H H' : Hp} : ∀ {as : List (D × Bool)} {vs : List V} {xs : List Addr}, FsOk K S H as vs xs → Same S S' → (∀ x ∈ xs, H' x = H x) → FsOk K S' H' as vs xs
  | [], _, _, h, _, _ => h
  | (d, false) :: as, _, _, ⟨v, r, e, h1, h2⟩, s, k => ⟨v, r, e, h1.mono s, h2.mono s k⟩
  | (d, true) :: as, _, _, ⟨x, o, r, ys, e, e2, h1, h2, h3⟩, s, k => ⟨x, o, r, ys, e, e2, by rw [k x (by rw [e2]; exact List.mem_cons_self)]; exact h1, h2.mono s, h3.mono s fun y hy => k y (by rw [e2]; exact List.mem_cons_of_mem _ hy)⟩
theorem sfs_nil : SFs X EX W [] fsN := PA.weak pa_nil fun σ H Q ⟨st, P, r, st', R0, hm, er, q⟩ => by
  obtain ⟨rfl, rfl⟩ := ret_some hm
  exact q _ rfl [] H P ⟨[], List.nodup_nil, fun _ z => by simp at z, funext fun y => by simp, rfl, rfl⟩ R0 Gr.refl
/-- hiding more: the new object of a value as it stands -/
theorem sfs_cons {e : Expr} {es : List Expr} {a : R (D × Bool)} {m : R (List (D × Bool))} (ha : SE X EX W e a) (hr : SFs X EX W es m) (hs : starEach (e :: es) X.env = (false, eval e X.env) :: starEach es X.env := by rfl) : SFs X EX W (e :: es) (fsC a m) :=
  PA.weak (pa_cons ha hr hs) fun σ H Q ⟨st, P, r, st', R0, hm, er, q⟩ => by
    rcases bnd_some hm with ⟨x, e1, rfl⟩ | ⟨⟨d, f⟩, st1, e1, hk⟩
    · exact ⟨st, P, .error x, st', R0, e1, fun y hy => er y (by cases hy; rfl), fun a ha => (by cases ha)⟩
    rcases bnd_some hk with ⟨x, e2, rfl⟩ | ⟨ps, st2, e2, hk2⟩
    · -- a later one raises: then the new object is let go
      refine ⟨st, P, .ok (d, f), st1, R0, e1, fun y hy => (by cases hy), fun a' ha' v H1 P1 ok R1 g => ?_⟩
      cases ha'
      cases f with
      | false =>
        obtain ⟨rfl, rv⟩ := ok
        exact ⟨st1, P1, .error x, st', R1, e2, fun y hy => er.shift g y (by cases hy; rfl), fun a ha => (by cases ha)⟩
      | true =>
        obtain ⟨x0, o, rfl, hP, rfl, hx, ro⟩ := ok
        obtain ⟨R2, _⟩ := R1.unpend hP hx ro
        have g2 : Gr st st1 σ P P H H1 := ⟨g.same.trans unpend_same, g.fr, g.lk⟩
        exact ⟨st1, P, .error x, st', R2, e2, fun y hy => er.shift g2 y (by cases hy; rfl), fun a ha => (by cases ha)⟩
    · obtain ⟨rfl, rfl⟩ := ret_some hk2
      refine ⟨st, P, .ok (d, f), st1, R0, e1, fun y hy => (by cases hy), fun a' ha' v H1 P1 ok R1 g => ?_⟩
      cases ha'
      refine ⟨st1, P1, .ok ps, st', R1, e2, fun y hy => (by cases hy), fun a' ha' vs H2 P2 ok2 R2 g2 => ?_⟩
      cases ha'
      obtain ⟨xs, nd, hn, rfl, fs⟩ := ok2
      cases f with
      | false =>
        obtain ⟨rfl, rv⟩ := ok
        refine q _ rfl (v :: vs) H2 _ ⟨xs, nd, hn, rfl, v, vs, rfl, ?_, fs⟩ R2 ⟨g.same.trans g2.same, fun a ha => (g2.fr a ha).trans (g.fr a ha), g.lk.trans g2.lk⟩
        exact rv.mono g2.same
      | true =>
        obtain ⟨x0, o, rfl, hP, rfl, hx, ro⟩ := ok
        have ep : (fun y => (P y ∨ y = x0) ∨ y ∈ xs) = (fun y => P y ∨ y ∈ x0 :: xs) := funext fun y => by simp [or_assoc]
        rw [ep] at R2 g2 fs
        refine q _ rfl (.ref x0 :: vs) H2 _ ⟨x0 :: xs, List.nodup_cons.mpr ⟨fun z => hn x0 z (.inr rfl), nd⟩, fun y hy => ?_, rfl, x0, o, vs, xs, rfl, rfl, ?_, ?_, fs⟩ R2 ⟨g.same.trans g2.same, fun a ha => (g2.fr a (.inl ha)).trans (g.fr a ha), g.lk.trans g2.lk⟩
        · rcases List.mem_cons.mp hy with rfl | hy
          · exact hP
          · exact fun z => hn y hy (.inl z)
        · rw [g2.fr x0 (.inr rfl)]; exact hx
        · exact ro.mono g2.same
/-- all are stored, one after the other -/
def puts : List Nat → List (D × Bool) → R Unit
  | [], [] => ret ()
  | i :: is, a :: as => bnd (put i a) fun _ => puts is as
  | _, _ => stuck
def setAll (σ : L2.St) : List Nat → List V → L2.St
  | i :: is, v :: vs => setAll (σ.set i (some v)) is vs
  | _, _ => σ
theorem puts_run {K : PySem.W.Frag} : ∀ {is : List Nat} {as : List (D × Bool)} {vs : List V} {xs : List Addr} {st0 st st' : SS} {σ0 σ : L2.St} {H0 H : Hp} {P : Addr → Prop} {r : Except Ex Unit}, puts is as st = some (r, st') → xs.Nodup → (∀ x ∈ xs, ¬ P x) →
    FsOk K (Sh st σ (fun y => P y ∨ y ∈ xs) H) H as vs xs → Rel K st σ H (fun y => P y ∨ y ∈ xs) → GrS st0 st σ0 σ P (fun y => P y ∨ y ∈ xs) H0 H →
    r = .ok () ∧ Rel K st' (setAll σ is vs) H P ∧ GrS st0 st' σ0 (setAll σ is vs) P P H0 H
  | [], [], _, _, st0, st, st', σ0, σ, H0, H, P, r, h, nd, hn, fs, R0, g => by
    obtain ⟨rfl, rfl⟩ := ret_some h
    obtain ⟨rfl, rfl⟩ := fs
    have ep : (fun y => P y ∨ y ∈ ([] : List Addr)) = P := funext fun y => by simp
    rw [ep] at R0 g
    exact ⟨rfl, R0, g⟩
  | i :: is, (d, false) :: as, _, xs, st0, st, st', σ0, σ, H0, H, P, r, h, nd, hn, fs, R0, g => by
    obtain ⟨v, vr, rfl, rv, fs⟩ := fs
    rcases bnd_some h with ⟨x, e, _⟩ | ⟨_, st1, e, h2⟩
    · exact absurd (put_some e).1 (by simp)
    obtain ⟨q1, q2, q3, q4⟩ := R0.put (P := fun y => P y ∨ y ∈ xs) (a := (d, false)) ⟨rfl, rv⟩ e
    refine puts_run (is := is) (as := as) (σ := σ.set i (some v)) h2 nd hn (fs.mono q2 fun _ _ => rfl) q1 ⟨g.same.trans q2, g.fr, q3.trans g.ln, fun j d e => ?_⟩
    obtain ⟨⟨d1, e1⟩, e2⟩ := g.lk j d e
    obtain ⟨z1, z2⟩ := q4 j d1 e1
    exact ⟨z1, z2.trans e2⟩
  | i :: is, (d, true) :: as, _, xs, st0, st, st', σ0, σ, H0, H, P, r, h, nd, hn, fs, R0, g => by
    obtain ⟨x, o, vr, ys, rfl, rfl, hx, ro, fs⟩ := fs
    obtain ⟨nx, nd⟩ := List.nodup_cons.mp nd
    rcases bnd_some h with ⟨x, e, _⟩ | ⟨_, st1, e, h2⟩
    · exact absurd (put_some e).1 (by simp)
    have ep : (fun y => (P y ∨ y ∈ ys) ∨ y = x) = (fun y => P y ∨ y ∈ x :: ys) := funext fun y => propext (by simp only [List.mem_cons]; exact ⟨fun h => h.elim (fun h => h.elim .inl fun h => .inr (.inr h)) fun h => .inr (.inl h), fun h => h.elim (fun h => .inl (.inl h)) fun h => h.elim .inr fun h => .inl (.inr h)⟩)
    obtain ⟨q1, q2, q3, q4⟩ := R0.put (P := fun y => P y ∨ y ∈ ys) (a := (d, true)) ⟨x, o, rfl, fun z => by
      rcases z with z | z
      · exact hn x List.mem_cons_self z
      · exact nx z, ep.symm, hx, ro⟩ e
    refine puts_run (is := is) (as := as) (σ := σ.set i (some (.ref x))) h2 nd (fun y hy => hn y (List.mem_cons_of_mem _ hy)) (fs.mono q2 fun _ _ => rfl) q1 ⟨g.same.trans q2, g.fr, q3.trans g.ln, fun j d e => ?_⟩
    obtain ⟨⟨d1, e1⟩, e2⟩ := g.lk j d e
    obtain ⟨z1, z2⟩ := q4 j d1 e1
    exact ⟨z1, z2.trans e2⟩
  | [], _ :: _, _, _, _, _, _, _, _, _, _, _, _, h, _, _, _, _, _ => by simp [puts, stuck] at h
  | _ :: _, [], _, _, _, _, _, _, _, _, _, _, _, h, _, _, _, _, _ => by simp [puts, stuck] at h
def parM (is : List Nat) (m : R (List (D × Bool))) : R Fl := bnd m fun as => bnd (puts is as) fun _ => ret .nx
theorem Gr.trans2 {st st1 st2 : SS} {σ : L2.St} {P P1 : Addr → Prop} {H H1 H2 : Hp} (x : Gr st st1 σ P P1 H H1) (y : Gr st1 st2 σ P1 P1 H1 H2) (h : ∀ a, P a → P1 a := by intro a ha; exact .inl ha) : Gr st st2 σ P P1 H H2 :=
  ⟨x.same.trans y.same, fun a ha => (y.fr a (h a ha)).trans (x.fr a ha), x.lk.trans y.lk⟩
theorem FsOk.length {K : PySem.W.Frag} {S H : Hp} : ∀ {as : List (D × Bool)} {vs : List V} {xs : List Addr}, FsOk K S H as vs xs → vs.length = as.length
  | [], _, _, ⟨h, _⟩ => by rw [h]; rfl
  | (d, false) :: as, _, _, ⟨v, r, e, h1, h2⟩ => by rw [e]; simp [h2.length]
  | (d, true) :: as, _, _, ⟨x, o, r, ys, e, e2, h1, h2, h3⟩ => by rw [e]; simp [h3.length]
theorem puts_length : ∀ {is : List Nat} {as : List (D × Bool)} {st st' : SS} {r : Except Ex Unit}, puts is as st = some (r, st') → r = .ok () ∧ as.length = is.length
  | [], [], _, _, _, h => ⟨(ret_some h).1, rfl⟩
  | i :: is, a :: as, _, _, _, h => by
    rcases bnd_some h with ⟨x, e, _⟩ | ⟨_, st1, e, h2⟩
    · exact absurd (put_some e).1 (by simp)
    · obtain ⟨h3, h4⟩ := puts_length h2
      exact ⟨h3, by simp [h4]⟩
  | [], _ :: _, _, _, _, h => by simp [puts, stuck] at h
  | _ :: _, [], _, _, _, h => by simp [puts, stuck] at h
/-- a parallel store: the values as they come, the heap grown by what nobody has -/
theorem par_run {is : List Nat} {m : R (List (D × Bool))} {D : Ends} {σ : L2.St} {H : Hp} {Q1 : List V → Hp → Prop} (h : tS X.K EX W (parM is m) D σ H)
    (c : ∀ (vs : List V) (H1 : Hp), vs.length = is.length → (∀ H2, Same H1 H2 → D.nx (setAll σ is vs) H2) → Q1 vs H1) : tR X.K EX W (okFs X.K) m σ H Q1 := by
  obtain ⟨st, P, r, st', R0, hm, en⟩ := h
  refine tR_step R0 hm en.err fun as st1 vs H1 P1 ok R1 g hk => ?_
  obtain ⟨xs, nd, hn, rfl, fs⟩ := ok
  rcases bnd_some hk with ⟨x, e, _⟩ | ⟨_, st2, e, hk2⟩
  · cases (puts_length e).1
  · obtain ⟨rfl, rfl⟩ := ret_some hk2
    refine c vs H1 (by rw [fs.length, (puts_length e).2]) fun H2 s => ?_
    have hx2 : ∀ x ∈ xs, H2 x = H1 x := fun x hx => by
      cases q : H1 x with
      | none => exact absurd q (R1.trk x (.inr hx))
      | some o => exact s x o q
    obtain ⟨_, R2, g2⟩ := puts_run e nd hn (fs.mono (same_hid s) hx2) (R1.grow s) (g.trans2 (Gr.grow R1 s)).s
    exact en.1 rfl _ _ R2 g2
theorem ss_par2 {i j : Nat} {x y : Str} {a b : Expr} {m : R (List (D × Bool))} {px py pt : Pos} {kt k2 : Nat} {pt2 pos : Pos} (hc : X.calm = true) (hN : X.N.Nodup) (hi : X.N[i]? = some x) (hj : X.N[j]? = some y) (hij : i ≠ j)
    (hx : X.env.scope.names.lookup x = some .local) (hy : X.env.scope.names.lookup y = some .local) (ha : SFs X EX W [a, b] m)
    (hw : swappedStores [.Tuple [.Name x px, .Name y py] kt pt] (.Tuple [a, b] k2 pt2) X.env = pure (some [x, y]))
    (hs : swapsWithSole [.Tuple [.Name x px, .Name y py] kt pt] (.Tuple [a, b] k2 pt2) pos.line X.env = pure false := by rfl) :
    SS1 X EX W (.Assign [.Tuple [.Name x px, .Name y py] kt pt] (.Tuple [a, b] k2 pt2) pos) (parM [i, j] m) := by
  refine PS.weak (ps_par hc hN hi hj hij hx hy ha hw hs) fun D σ H h => par_run h fun vs H1 hl c => ?_
  obtain ⟨v, w, rfl⟩ : ∃ v w, vs = [v, w] := by
    match vs, hl with
    | [v, w], _ => exact ⟨v, w, rfl⟩
  exact ⟨v, w, rfl, c H1 (Same.refl _)⟩
theorem ss_par3 {i j l : Nat} {x y z : Str} {a b c : Expr} {m : R (List (D × Bool))} {px py pz pt pos : Pos} {kt k2 : Nat} {pt2 : Pos} (hc : X.calm = true) (hN : X.N.Nodup) (hi : X.N[i]? = some x) (hj : X.N[j]? = some y) (hl : X.N[l]? = some z) (hij : i ≠ j) (hil : i ≠ l) (hjl : j ≠ l)
    (hx : X.env.scope.names.lookup x = some .local) (hy : X.env.scope.names.lookup y = some .local) (hz : X.env.scope.names.lookup z = some .local) (ha : SFs X EX W [a, b, c] m)
    (hw : swappedStores [.Tuple [.Name x px, .Name y py, .Name z pz] kt pt] (.Tuple [a, b, c] k2 pt2) X.env = pure (some [x, y, z]))
    (hs : swapsWithSole [.Tuple [.Name x px, .Name y py, .Name z pz] kt pt] (.Tuple [a, b, c] k2 pt2) pos.line X.env = pure false := by rfl) :
    SS1 X EX W (.Assign [.Tuple [.Name x px, .Name y py, .Name z pz] kt pt] (.Tuple [a, b, c] k2 pt2) pos) (parM [i, j, l] m) := by
  refine PS.weak (ps_par3 hc hN hi hj hl hij hil hjl hx hy hz ha hw hs) fun D σ H h => par_run h fun vs H1 hl c => ?_
  obtain ⟨u, v, w, rfl⟩ : ∃ u v w, vs = [u, v, w] := by
    match vs, hl with
    | [u, v, w], _ => exact ⟨u, v, w, rfl⟩
  exact ⟨u, v, w, rfl, c H1 (Same.refl _)⟩
/-- names as targets, one after the other -/
def gNames (is : List Nat) : TGs := fun vs σ H Q => vs.length = is.length ∧ Q (setAll σ is vs) H
theorem gn_nil : PGs X [] (gNames []) := PGs.weak pgs_nil fun vs σ H Q ⟨h, q⟩ => by
  have e : vs = [] := List.eq_nil_of_length_eq_zero h
  subst e
  exact ⟨rfl, q⟩
theorem gn_cons {i : Nat} {is : List Nat} {x : Str} {es : List Expr} {pos : Pos} (hN : X.N.Nodup) (hi : X.N[i]? = some x) (hx : Loc X.env.scope x) (h2 : PGs X es (gNames is)) (hf : X.fn x = true ∨ X.env.scope.names.lookup x = some .local := by first | exact .inl rfl | exact .inr rfl | assumption)
    (hs : (assignEach (.Name x pos :: es) X.env).map (·.2) = assign (.Name x pos) X.env :: (assignEach es X.env).map (·.2) := by rfl) : PGs X (.Name x pos :: es) (gNames (i :: is)) :=
  PGs.weak (pgs_cons (pg_name hN hi hx hf) h2 hs) fun vs σ H Q ⟨h, q⟩ => by
    match vs, h with
    | v :: vs, h => exact ⟨v, vs, rfl, by simpa using h, q⟩
theorem ss_parT {es vsE : List Expr} {is : List Nat} {m : R (List (D × Bool))} {kt k2 : Nat} {pt pt2 pos : Pos} (hc : X.calm = true) (ha : SFs X EX W vsE m) (hg : PGs X es (gNames is)) (hz : is.length ≤ sizeLine) (hn : (assignEach es X.env).length = is.length := by rfl) (hst : (assignEach es X.env).findIdx? (·.1) = none := by rfl)
    (hs : swapsWithSole [.Tuple es kt pt] (.Tuple vsE k2 pt2) pos.line X.env = pure false := by rfl) (hw : swappedStores [.Tuple es kt pt] (.Tuple vsE k2 pt2) X.env = pure none := by rfl)
    (h1 : (assignEach [.Tuple es kt pt] X.env).map (·.2) = [assign (.Tuple es kt pt) X.env] := by rfl) :
    SS1 X EX W (.Assign [.Tuple es kt pt] (.Tuple vsE k2 pt2) pos) (parM is m) := by
  refine PS.weak (ps_asg (pe_tup ha) (pg_tup hc hg hn hst) hs hw h1) fun D σ H h => ?_
  refine par_run h fun vs H1 hl c => ⟨by rw [hl]; exact hz, fun p hp => ?_⟩
  exact ⟨p, vs, rfl, SqT.of upd_same, hl, hl, c _ (same_upd hp)⟩
/-- x, y = e, e a tuple -/
def setT (t : TM) (m : R D) : R Fl := bnd m fun d => fun st => match t d st with
  | some st' => some (.ok .nx, st')
  | none => none
theorem ss_setT {tg e : Expr} {is : List Nat} {t : TM} {m : R D} {pos : Pos} (he : SD X EX W e m) (hg : SG X is tg t) (hs : swapsWithSole [tg] e pos.line X.env = pure false := by rfl) (hw : swappedStores [tg] e X.env = pure none := by rfl)
    (h1 : (assignEach [tg] X.env).map (·.2) = [assign tg X.env] := by rfl) : SS1 X EX W (.Assign [tg] e pos) (setT t m) :=
  PS.weak (ps_asg he hg hs hw h1) fun D σ H ⟨st, P, r, st', R0, hm, en⟩ => by
    refine tR_step R0 hm en.err fun d st1 v H1 P1 ⟨hP, ok⟩ R1 g hk => ?_
    subst hP
    split at hk
    · rename_i st2 et
      cases hk
      exact ⟨st1, P1, d, st', R1, ok, et, fun σ' R2 g2 _ => en.1 rfl σ' H1 R2 (g.s.trans g2)⟩
    · cases hk
end
end G
namespace G
open PySem PySem.Spec PyProof.Rows L2

/-! ### isinstance of built-in types -/
def tyName : D → String
  | .non => "NoneType" | .bl _ => "bool" | .int _ => "int" | .str _ => "str" | .tup _ => "tuple" | .lst _ => "list" | .dic _ _ => "dict" | .set _ => "set"
def isTy (T : String) : D → Bool
  | .non => T == "NoneType" | .bl _ => T == "bool" || T == "int" | .int _ => T == "int" | .str _ => T == "str" | .tup _ => T == "tuple" | .lst _ => T == "list" | .dic _ _ => T == "dict" | .set _ => T == "set"
def tys : List String := ["int", "bool", "str", "tuple", "list", "dict", "set"]
theorem kit_isTy {K : PySem.W.Frag} {T : String} (h : T ∈ tys) (d : D) : PySem.W.kitOne K (.type (tyName d)) (.type T) = some (isTy T d) := by
  apply kit_ty
  simp only [tys, List.mem_cons, List.not_mem_nil, or_false] at h
  rcases h with rfl | rfl | rfl | rfl | rfl | rfl | rfl <;> cases d <;> (simp only [tyName, isTy]; decide +kernel)
theorem Vw.tyX {K : PySem.W.Frag} {O : Addr → Prop} {H : Hp} {d : D} {v : V} (h : Vw K (hid O H) H d v) : TyX K H v (.type (tyName d)) := by
  have lst : ∀ {a : Addr} {vs : List V}, SqL K H a vs → TyX K H (.ref a) (.type "list") := fun {a vs} q => by
    rcases q with (q | ⟨o, q⟩) | ⟨o, its, n, q, c, _⟩
    · exact .base (.lst q)
    · exact .base (.frz q)
    · exact .kList q c
  cases d with
  | non => cases h.non; exact .base .non
  | bl b => cases h.bl; exact .base (.bl _)
  | int i => cases h.int; exact .base (.int _)
  | str x => cases h.str; exact .base (.str _)
  | tup ds =>
    obtain ⟨a, vs, rfl, q, _⟩ := h.tup
    rcases q with (q | ⟨o, q⟩) | ⟨o, its, n, q, c, _⟩
    · exact .base (.tup q)
    · exact .fTuple q
    · exact .kTuple q c
  | lst ds =>
    obtain ⟨a, vs, rfl, q, _⟩ := h.lst
    exact lst q
  | dic a b =>
    rcases h with h | ⟨_, o, _, _, h⟩
    · simp only [Rep] at h
    · cases o <;> simp only [RepO] at h
  | set a =>
    rcases h with h | ⟨_, o, _, _, h⟩
    · simp only [Rep] at h
    · cases o <;> simp only [RepO] at h
section
variable {X : Cx} {EX : EXT} {W : WX}
def isiM (f : D → Bool) (m : R PV) : R (D × Bool) := op1 (fun d => some (.bl (f d), false)) m
theorem isi_run {f : D → Bool} {m : R PV} {σ : L2.St} {H : Hp} {Q : V → Hp → Prop} {Q1 : V → Hp → Prop} (h : tR X.K EX W (okM X.K) (isiM f m) σ H Q)
    (c : ∀ (d : D) (v : V) (H1 : Hp) (O : Addr → Prop), Vw X.K (hid O H1) H1 d v → (∀ H2, Same H1 H2 → Q (.bl (f d)) H2) → Q1 v H1) : tR X.K EX W (okO X.K) m σ H Q1 := by
  obtain ⟨st, P, r, st', R0, hm, er, q⟩ := h
  refine tR_step R0 hm er fun p st1 v H1 P1 ⟨hP, ok⟩ R1 g hk => ?_
  subst hP
  unfold use1 at hk
  split at hk
  · rename_i x e1
    obtain ⟨⟨d, bb⟩, ef, rfl, rfl⟩ := lift_some hk
    cases ef
    exact c x v H1 _ (rsv_vw R1 ok e1) fun H2 s => q _ rfl _ H2 P1 ⟨rfl, by simp only [Rep]⟩ (R1.grow s) (g.trans (Gr.grow R1 s))
  · cases hk
theorem se_isi {x : Str} {T : String} {p q pos : Pos} {e : Expr} {m : R PV} (hg : Gl X "isinstance") (hm : X.mg "isinstance" = none) (hgT : Gl X x) (hmT : X.mg x = none) (hvT : bootBuiltins x = some (.type T)) (hT : T ∈ tys) (ha : SO X EX W e m)
    (hnT : x ≠ "__name__" := by decide) (hdT : (x == ("__debug__" : Str)) = false := by decide) (hs : starEach [e, .Name x q] X.env = (false, eval e X.env) :: starEach [.Name x q] X.env := by rfl) :
    SE X EX W (.Call (.Name "isinstance" p) [e, .Name x q] [] pos) (isiM (isTy T) m) := by
  refine PE.weak (pe_callB call_isi hg hm (by decide +kernel) (pa_cons ha (pa_cons (pe_bltn (v := .ty T) hgT hmT hvT rfl hnT hdT) pa_nil) hs) (by decide) (by decide) hs) fun σ H Q h => ?_
  refine isi_run h fun d v H1 O hv q => ?_
  exact ⟨v, .ty T, _, _, _, rfl, .ty T, hv.tyX, kit_isTy hT d, q H1 (Same.refl _)⟩
theorem se_isi2 {x y : Str} {T U : String} {p q q2 pos tp : Pos} {k : Nat} {e : Expr} {m : R PV} (hg : Gl X "isinstance") (hm : X.mg "isinstance" = none) (hgT : Gl X x) (hmT : X.mg x = none) (hvT : bootBuiltins x = some (.type T)) (hT : T ∈ tys)
    (hgU : Gl X y) (hmU : X.mg y = none) (hvU : bootBuiltins y = some (.type U)) (hU : U ∈ tys) (ha : SO X EX W e m)
    (hnT : x ≠ "__name__" := by decide) (hdT : (x == ("__debug__" : Str)) = false := by decide) (hnU : y ≠ "__name__" := by decide) (hdU : (y == ("__debug__" : Str)) = false := by decide)
    (hs : starEach [e, .Tuple [.Name x q, .Name y q2] k tp] X.env = (false, eval e X.env) :: starEach [.Tuple [.Name x q, .Name y q2] k tp] X.env := by rfl) :
    SE X EX W (.Call (.Name "isinstance" p) [e, .Tuple [.Name x q, .Name y q2] k tp] [] pos) (isiM (fun d => isTy T d || isTy U d) m) := by
  refine PE.weak (pe_callB call_isiT hg hm (by decide +kernel) (pa_cons ha (pa_cons (pe_tup (pa_cons (pe_bltn (v := .ty T) hgT hmT hvT rfl hnT hdT) (pa_cons (pe_bltn (v := .ty U) hgU hmU hvU rfl hnU hdU) pa_nil))) pa_nil) hs) (by decide) (by decide) hs) fun σ H Q h => ?_
  refine isi_run h fun d v H1 O hv q => ?_
  refine ⟨by show 2 ≤ sizeLine; decide, fun p hp => ?_⟩
  have s := same_upd (o := .tup [V.ty T, V.ty U]) hp
  have tx : TyX X.K (upd H1 p (.tup [V.ty T, V.ty U])) v (.type (tyName d)) := by
    have h2 : Vw X.K (hid O (upd H1 p (.tup [V.ty T, V.ty U]))) (upd H1 p (.tup [V.ty T, V.ty U])) d v := by
      rcases hv with hv | ⟨a, o, e1, e2, e3⟩
      · exact .inl (hv.mono (same_hid s))
      · exact .inr ⟨a, o, e1, s a o e2, e3.mono (same_hid s)⟩
    exact h2.tyX
  refine ⟨v, p, [.ty T, .ty U], _, [.type T, .type U], _, rfl, upd_same, .cons (.ty T) (.cons (.ty U) .nil), tx, kitAny_cons (r := isTy T d || isTy U d) (kit_isTy hT d) (fun z => ?_) (fun z => by rw [z]; rfl), q _ s⟩
  rw [z, Bool.false_or]
  exact kitAny_cons (kit_isTy hU d) (fun z => by rw [z]; exact kitAny_nil) fun z => z

/-! ### zip, enumerate -/
def pairF : D → D → D := fun a b => .tup [a, b]
theorem itOk_pair {K : PySem.W.Frag} {S : Hp} {xs ys : List V} {as bs : List D} {J : It} (h1 : Reps K S as xs) (h2 : Reps K S bs ys)
    (hgo : ∀ (i : Nat) (H : Hp) (x y : V), Same S H → xs[i]? = some x → ys[i]? = some y → J.go i H) (hst : ∀ (i : Nat) (H : Hp), Same S H → (xs.length ≤ i ∨ ys.length ≤ i) → J.stop i H)
    (hy : ∀ (i : Nat) (H : Hp) (v : V) (H' : Hp), Same S H → J.yld i H v H' → ∃ T x y, v = .ref T ∧ H T = none ∧ H' = upd H T (.tup [x, y]) ∧ xs[i]? = some x ∧ ys[i]? = some y) : ItOk K S J (List.zipWith pairF as bs) where
  go := fun i H hi s => by
    have hi' : i < as.length ∧ i < bs.length := by simpa [Nat.lt_min] using hi
    have l1 : i < xs.length := by rw [h1.length]; exact hi'.1
    have l2 : i < ys.length := by rw [h2.length]; exact hi'.2
    exact hgo i H xs[i] ys[i] s (List.getElem?_eq_getElem l1) (List.getElem?_eq_getElem l2)
  stop := fun H s => hst _ H s (by
    rw [List.length_zipWith, h1.length, h2.length]
    omega)
  yld := fun i d H v H' e s y => by
    obtain ⟨T, x, z, rfl, hT, rfl, e1, e2⟩ := hy i H v H' s y
    refine ⟨same_upd hT, fun O hO s2 => ?_⟩
    rw [List.getElem?_zipWith] at e
    cases ea : as[i]? with
    | none => rw [ea] at e; simp at e
    | some a =>
      cases eb : bs[i]? with
      | none => rw [ea, eb] at e; simp at e
      | some b =>
        rw [ea, eb] at e
        simp at e
        subst e
        obtain ⟨x', q1, q2⟩ := h1.get ea
        obtain ⟨z', q3, q4⟩ := h2.get eb
        rw [e1] at q1; cases q1
        rw [e2] at q3; cases q3
        have s3 : Same S (hid O (upd H T (.tup [x, z]))) := s2.trans (same_hid (same_upd hT))
        simp only [pairF, Rep]
        refine ⟨T, [x, z], rfl, SqT.of ?_, Reps.cons (q2.mono s3) (Reps.one (q4.mono s3))⟩
        rw [hid_no fun z => hO T z hT, upd_same]
def zipF : List D → Option (List D)
  | [.lst a, .lst b] => some (List.zipWith pairF a b)
  | [.tup a, .tup b] => some (List.zipWith pairF a b)
  | _ => none
theorem si_zip {e e2 : Expr} {m : R (List D)} {p pos tpos : Pos} {elts : List Expr} {kk : Nat} (hg : Gl X "zip") (hm : X.mg "zip" = none) (ha : SL X EX W [e, e2] m)
    (hs : starEach [e, e2] X.env = (false, eval e X.env) :: starEach [e2] X.env := by rfl) (hpl : (backTo pos (starEach [e2] X.env)).any (·.1) = false := by rfl) :
    SI X EX W (.Tuple elts kk tpos) (.Call (.Name "zip" p) [e, e2] [] pos) (srcA zipF m) := by
  refine ⟨fun pins s σ H Q I q => (RZ.pi_zipA hg hm ha hs hpl).run pins s σ H Q I ?_⟩
  refine srcA_run q fun as ds vs H1 O e ok q => ?_
  unfold zipF at e
  split at e
  · rename_i a b
    cases e
    obtain ⟨v, r, rfl, h1, h2⟩ := Reps.cons_iff.mp ok
    obtain ⟨v2, r, rfl, h3, h4⟩ := Reps.cons_iff.mp h2
    cases Reps.nil_iff.mp h4
    simp only [Rep] at h1 h3
    obtain ⟨x, xs, rfl, q1, q2⟩ := h1
    obtain ⟨y, ys, rfl, q3, q4⟩ := h3
    refine ⟨x, y, xs, ys, rfl, .inl ⟨hid_same.seq q1, hid_same.seq q3, q _ (itOk_pair q2 q4 (fun i H u v s e1 e2 => ⟨xs, ys, u, v, s.seq q1, s.seq q3, e1, e2⟩) (fun i H s h => ⟨xs, ys, s.seq q1, s.seq q3, h⟩) fun i H v H' s h => ?_)⟩⟩
    obtain ⟨T, u, w, e1, e2, e3, e4, e5⟩ := h
    exact ⟨T, u, w, e1, e2, e3, e4 xs (s.seq q1), e5 ys (s.seq q3)⟩
  · rename_i a b
    cases e
    obtain ⟨v, r, rfl, h1, h2⟩ := Reps.cons_iff.mp ok
    obtain ⟨v2, r, rfl, h3, h4⟩ := Reps.cons_iff.mp h2
    cases Reps.nil_iff.mp h4
    simp only [Rep] at h1 h3
    obtain ⟨x, xs, rfl, q1, q2⟩ := h1
    obtain ⟨y, ys, rfl, q3, q4⟩ := h3
    refine ⟨x, y, xs, ys, rfl, .inr ⟨sameT hid_same q1, sameT hid_same q3, q _ (itOk_pair q2 q4 (fun i H u v s e1 e2 => ⟨xs, ys, u, v, sameT s q1, sameT s q3, e1, e2⟩) (fun i H s h => ⟨xs, ys, sameT s q1, sameT s q3, h⟩) fun i H v H' s h => ?_)⟩⟩
    obtain ⟨T, u, w, e1, e2, e3, e4, e5⟩ := h
    exact ⟨T, u, w, e1, e2, e3, e4 xs (sameT s q1), e5 ys (sameT s q3)⟩
  · cases e
end

/-! ### the law's end -/
abbrev EX0 : EXT := fun _ _ _ _ => False
theorem hid_none {H : Hp} {O : Addr → Prop} (h : ∀ a, ¬ O a) : hid O H = H := funext fun a => hid_no (h a)
/-- the law, called with the script -/
theorem law_sp {K : PySem.W.Frag} {EX : EXT} {F : R (D × Bool)} {H : Hp} {a : Addr} {ns : List Int} (hS : SqL K H a (ns.map V.int)) (h : ∃ svs', F [.v (.lst (ns.map .int))] = some (.ok (.bl true, false), svs')) :
    spF K EX 1 F [.ref a] H (fun v _ => v = .bl true) fun _ _ _ => False := by
  obtain ⟨svs', e⟩ := h
  have nh : ∀ b, ¬ Hd [SV.v (.lst (ns.map .int))] [some (V.ref a)] (fun _ => False) b := fun b z => by
    rcases z with ⟨i, ⟨l, d, e⟩, _⟩ | z
    · cases i with
      | zero => simp at e
      | succ i => simp at e
    · exact z
  have rn : ∀ (ns : List Int), Reps K H (ns.map .int) (ns.map V.int) := fun ns => by
    induction ns with
    | nil => exact Reps.nil
    | cons n ns ih => exact Reps.cons (by simp only [Rep]) ih
  refine ⟨rfl, _, fun _ => False, _, svs', ⟨rfl, fun i d e => ?_, fun i l d e => ?_, fun i j b h => absurd (.inl ⟨i, h⟩) (nh b), fun b ⟨i, h⟩ => absurd (.inl ⟨i, h⟩) (nh b), fun b z => z.elim⟩, rfl, e, fun x hx v H' P' ok R1 g => ?_, fun x hx => by cases hx⟩
  · cases i with
    | zero =>
      simp at e
      subst e
      refine ⟨.ref a, rfl, ?_⟩
      show Rep K (hid (Hd [SV.v (.lst (ns.map .int))] [some (V.ref a)] (fun _ => False)) H) _ _
      rw [hid_none nh]
      simp only [Rep]
      exact ⟨a, _, rfl, hS, rn ns⟩
    | succ i => simp at e
  · cases i <;> simp at e
  · cases hx
    simpa only [Rep] using ok.2
end G
namespace G
open PySem PySem.Spec PyProof.Rows L2
/-! ### functions of the module -/
structure FT (K : PySem.W.Frag) (mg : Str → Option Value) (x : Str) (st : Stmt) (ps : List Str) : Prop where
  ex : ∃ (f : Addr) (fd : FuncData), Fun K x x st f fd ∧ mg x = some (.ref f) ∧ PySem.W.keepIn K (.ref f) = true ∧ Binds K fd ps []
theorem ft_mk {K : PySem.W.Frag} {mg : Str → Option Value} {x : Str} {st : Stmt} {ps : List Str} {f : Addr} {fd : FuncData} (F : Fun K x x st f fd) (hm : mg x = some (.ref f)) (hk : PySem.W.keepIn K (.ref f) = true)
    (h : ∀ (kV doc pm : Value) (an : Option Addr) (cdv ct : Value) (us : List Value), us.length = ps.length → bindArgs (PySem.W.fnOf x x (defArgs st) (defBody st) (defScope st) .none kV doc pm an cdv ct) ⟨us, []⟩ = pure (ps.zip us)) : FT K mg x st ps :=
  ⟨f, fd, F, hm, hk, F.binds h⟩
theorem FT.at {P : Program} {w : World} {K : PySem.W.Frag} {mg : Str → Option Value} {base : Heap} {EX : EXT} {x : Str} {st : Stmt} {ps : List Str} {k : Nat} {F : R (D × Bool)} (t : FT K mg x st ps)
    (h : ∀ {f : Addr} {fd : FuncData}, Fun K x x st f fd → FnOk P w K mg base (L2.CX P w) k f fd ps (spF K EX ps.length F)) : FnAt P w K mg base EX x k ps.length F := by
  obtain ⟨f, fd, e, hm, hk, b⟩ := t.ex
  exact ⟨f, fd, ps, rfl, h e, hm, hk, b⟩
theorem FT.at0 {P : Program} {w : World} {K : PySem.W.Frag} {mg : Str → Option Value} {base : Heap} {EX : EXT} {x : Str} {st : Stmt} {ps : List Str} {k : Nat} (t : FT K mg x st ps) : FnAt P w K mg base EX x k ps.length stuck := by
  obtain ⟨f, fd, e, hm, hk, b⟩ := t.ex
  refine ⟨f, fd, ps, rfl, ⟨fun vs H Q E h => h.1, fun A outer s H args us vs Q E hr he hb hv h => ?_⟩, hm, hk, b⟩
  obtain ⟨_, svs, P0, r, svs', _, _, e, _⟩ := h
  cases e
theorem cx_no {P : Program} {w : World} {H : Hp} {s : Shared} {e : Value} {s' : Shared} (h : L2.CX P w [] H s (fun _ _ _ => False) e s') : False := by
  obtain ⟨_, _, _, _, _, _, _, _, _, _, _, _, h⟩ := h
  exact h
end G
namespace G
open PySem PySem.Spec PyProof.Rows L2
/-! ### what a run comes to -/
section
variable {α β : Type}
@[irreducible] def wp (m : R α) (st : SS) (Q : α → SS → Prop) (E : Ex → SS → Prop) : Prop := match m st with
  | some (.ok a, st') => Q a st'
  | some (.error x, st') => E x st'
  | none => False
def kb (k : α → R β) (Q : β → SS → Prop) (E : Ex → SS → Prop) (a : α) (st : SS) : Prop := wp (k a) st Q E
def ks (b : R Fl) (Q : Fl → SS → Prop) (E : Ex → SS → Prop) (r : Fl) (st : SS) : Prop := match r with
  | .nx => wp b st Q E
  | r => Q r st
def wo (o : Option α) (P : α → Prop) : Prop := match o with
  | some a => P a
  | none => False
def NoE : Ex → SS → Prop := fun _ _ => False
theorem wp_eq {m : R α} {st : SS} {a : α} {st' : SS} {Q : α → SS → Prop} {E : Ex → SS → Prop} (h : m st = some (.ok a, st')) : wp m st Q E = Q a st' := by simp only [wp, h]
theorem eq_wp {m : R α} {st : SS} {a : α} {st' : SS} (h : wp m st (fun b s => b = a ∧ s = st') NoE) : m st = some (.ok a, st') := by
  unfold wp at h
  split at h
  · obtain ⟨rfl, rfl⟩ := h; assumption
  · exact h.elim
  · exact h.elim
theorem ex_wp {m : R α} {st : SS} {a : α} (h : wp m st (fun b _ => b = a) NoE) : ∃ st', m st = some (.ok a, st') := by
  unfold wp at h
  split at h
  · subst h; exact ⟨_, by assumption⟩
  · exact h.elim
  · exact h.elim
theorem wp_mono {m : R α} {st : SS} {Q Q' : α → SS → Prop} {E E' : Ex → SS → Prop} (h : wp m st Q E) (hq : ∀ a s, Q a s → Q' a s) (he : ∀ a s, E a s → E' a s) : wp m st Q' E' := by
  unfold wp at h ⊢
  split at h
  · exact hq _ _ h
  · exact he _ _ h
  · exact h.elim
theorem wp_ret {a : α} {st : SS} {Q : α → SS → Prop} {E : Ex → SS → Prop} : wp (ret a) st Q E = Q a st := by unfold wp; rfl
theorem wp_stuck {st : SS} {Q : α → SS → Prop} {E : Ex → SS → Prop} : wp stuck st Q E = False := by unfold wp; rfl
theorem wp_bnd {m : R α} {k : α → R β} {st : SS} {Q : β → SS → Prop} {E : Ex → SS → Prop} : wp (bnd m k) st Q E = wp m st (kb k Q E) E := by
  simp only [wp, bnd, kb]
  cases h : m st with
  | none => rfl
  | some p => rcases p with ⟨_ | _, _⟩ <;> rfl
theorem kb_ap {k : α → R β} {a : α} {st : SS} {Q : β → SS → Prop} {E : Ex → SS → Prop} : kb k Q E a st = wp (k a) st Q E := (rfl)
theorem wp_lift {o : Option α} {st : SS} {Q : α → SS → Prop} {E : Ex → SS → Prop} : wp (lift o) st Q E = wo o (fun a => Q a st) := by
  unfold wp
  cases o <;> rfl
theorem wo_some {a : α} {P : α → Prop} : wo (some a) P = P a := (rfl)
theorem wo_none {P : α → Prop} : wo none P = False := (rfl)
theorem wo_ite {c : Prop} [Decidable c] {a : α} {P : α → Prop} : wo (if c then some a else none) P = (c ∧ P a) := by
  by_cases h : c <;> simp [h, wo]
theorem wo_map {f : α → β} {o : Option α} {P : β → Prop} : wo (o.map f) P = wo o fun a => P (f a) := by cases o <;> rfl
theorem wp_ite {c : Prop} [Decidable c] {a b : R α} {st : SS} {Q : α → SS → Prop} {E : Ex → SS → Prop} : wp (if c then a else b) st Q E = if c then wp a st Q E else wp b st Q E := by
  by_cases h : c <;> simp [h]
end
section
variable {st : SS} {Q : PV → SS → Prop} {Qd : D × Bool → SS → Prop} {QD : D → SS → Prop} {Ql : List D → SS → Prop} {Qo : List PV → SS → Prop} {Qb : Bool → SS → Prop} {Qf : Fl → SS → Prop} {Qfs : List (D × Bool) → SS → Prop} {Qu : Unit → SS → Prop} {E : Ex → SS → Prop}
theorem ks_nx {b : R Fl} : ks b Qf E .nx st = wp b st Qf E := (rfl)
theorem ks_rt {b : R Fl} {a : D × Bool} : ks b Qf E (.rt a) st = Qf (.rt a) st := (rfl)
theorem ks_bk {b : R Fl} : ks b Qf E .bk st = Qf .bk st := (rfl)
theorem ks_ct {b : R Fl} : ks b Qf E .ct st = Qf .ct st := (rfl)
theorem wp_seq {a b : R Fl} : wp (seq a b) st Qf E = wp a st (ks b Qf E) E := by
  simp only [wp, seq, ks]
  cases h : a st with
  | none => rfl
  | some p =>
    rcases p with ⟨e | r, s⟩
    · rfl
    · cases r <;> rfl
/-! reading -/
def kpk (Q : PV → SS → Prop) (st : SS) (i : Nat) : Option SV → Prop
  | some (.v d) => Q (.d d) st
  | some (.ow _ _) => Q (.pk i) st
  | _ => False
theorem wp_pk {i : Nat} : wp (pk i) st Q E = kpk Q st i st[i]? := by
  unfold wp pk kpk
  cases st[i]? with
  | none => rfl
  | some s => cases s <;> rfl
theorem kpk_v {i : Nat} {d : D} : kpk Q st i (some (.v d)) = Q (.d d) st := (rfl)
theorem kpk_ow {i : Nat} {l : Bool} {d : D} : kpk Q st i (some (.ow l d)) = Q (.pk i) st := (rfl)
def krd (Q : D × Bool → SS → Prop) (st : SS) (i : Nat) : Option SV → Prop
  | some (.v d) => Q (d, false) st
  | some (.ow false d) => Q (d, false) (st.set i (.v d))
  | _ => False
theorem wp_rd {i : Nat} : wp (rd i) st Qd E = krd Qd st i st[i]? := by
  unfold wp rd krd
  cases st[i]? with
  | none => rfl
  | some s =>
    cases s with
    | ow l d => cases l <;> rfl
    | _ => rfl
theorem krd_v {i : Nat} {d : D} : krd Qd st i (some (.v d)) = Qd (d, false) st := (rfl)
theorem krd_ow {i : Nat} {d : D} : krd Qd st i (some (.ow false d)) = Qd (d, false) (st.set i (.v d)) := (rfl)
def kmv (Q : D × Bool → SS → Prop) (st : SS) (i : Nat) : Option SV → Prop
  | some (.v d) => Q (d, false) st
  | some (.ow false d) => Q (d, true) (st.set i .un)
  | _ => False
theorem wp_mv {i : Nat} : wp (mv i) st Qd E = kmv Qd st i st[i]? := by
  unfold wp mv kmv
  cases st[i]? with
  | none => rfl
  | some s =>
    cases s with
    | ow l d => cases l <;> rfl
    | _ => rfl
theorem kmv_v {i : Nat} {d : D} : kmv Qd st i (some (.v d)) = Qd (d, false) st := (rfl)
theorem kmv_ow {i : Nat} {d : D} : kmv Qd st i (some (.ow false d)) = Qd (d, true) (st.set i .un) := (rfl)
theorem wp_cst {d : D} : wp (cst d) st Qd E = Qd (d, false) st := by unfold wp; rfl
/-! operators -/
def k2 (f : D → D → Option (D × Bool)) (P : D × Bool → Prop) : Option D → Option D → Prop
  | some x, some y => wo (f x y) P
  | _, _ => False
theorem wp_use2 {f : D → D → Option (D × Bool)} {p q : PV} : wp (use2 f p q) st Qd E = k2 f (fun a => Qd a st) (rsv st p) (rsv st q) := by
  unfold use2
  cases h : rsv st p with
  | none => simp [wp, k2, h]
  | some x =>
    cases h2 : rsv st q with
    | none => simp [wp, k2, h, h2]
    | some y =>
      show _ = wo (f x y) _
      rw [← wp_lift (E := E)]
      simp only [wp, h, h2]
theorem k2_ap {f : D → D → Option (D × Bool)} {P : D × Bool → Prop} {x y : D} : k2 f P (some x) (some y) = wo (f x y) P := (rfl)
theorem wp_op2 {f : D → D → Option (D × Bool)} {a b : R PV} : wp (op2 f a b) st Qd E = wp a st (kb (fun p => bnd b fun q => use2 f p q) Qd E) E := wp_bnd
def k1 (f : D → Option (D × Bool)) (P : D × Bool → Prop) : Option D → Prop
  | some x => wo (f x) P
  | _ => False
theorem wp_use1 {f : D → Option (D × Bool)} {p : PV} : wp (use1 f p) st Qd E = k1 f (fun a => Qd a st) (rsv st p) := by
  unfold use1
  cases h : rsv st p with
  | none => simp [wp, k1, h]
  | some x =>
    show _ = wo (f x) _
    rw [← wp_lift (E := E)]
    simp only [wp, h]
theorem k1_ap {f : D → Option (D × Bool)} {P : D × Bool → Prop} {x : D} : k1 f P (some x) = wo (f x) P := (rfl)
theorem wp_op1 {f : D → Option (D × Bool)} {a : R PV} : wp (op1 f a) st Qd E = wp a st (kb (fun p => use1 f p) Qd E) E := wp_bnd
def kN (f : List D → Option (D × Bool)) (P : D × Bool → Prop) : Option (List D) → Prop
  | some x => wo (f x) P
  | _ => False
theorem wp_useN {f : List D → Option (D × Bool)} {p : List PV} : wp (useN f p) st Qd E = kN f (fun a => Qd a st) (rsvs st p) := by
  unfold useN
  cases h : rsvs st p with
  | none => simp [wp, kN, h]
  | some x =>
    show _ = wo (f x) _
    rw [← wp_lift (E := E)]
    simp only [wp, h]
theorem kN_ap {f : List D → Option (D × Bool)} {P : D × Bool → Prop} {x : List D} : kN f P (some x) = wo (f x) P := (rfl)
theorem wp_opN {f : List D → Option (D × Bool)} {a : R (List PV)} : wp (opN f a) st Qd E = wp a st (kb (fun p => useN f p) Qd E) E := wp_bnd
theorem rsv_d {d : D} : rsv st (.d d) = some d := (rfl)
def ksv : Option SV → Option D
  | some (.v d) => some d
  | some (.ow _ d) => some d
  | _ => none
theorem rsv_pk {i : Nat} : rsv st (.pk i) = ksv st[i]? := by
  cases h : st[i]? with
  | none => simp [rsv, ksv, h]
  | some s => cases s <;> simp [rsv, ksv, h]
theorem ksv_v {d : D} : ksv (some (.v d)) = some d := (rfl)
theorem ksv_ow {l : Bool} {d : D} : ksv (some (.ow l d)) = some d := (rfl)
def kcons : Option D → Option (List D) → Option (List D)
  | some d, some ds => some (d :: ds)
  | _, _ => none
theorem rsvs_nil : rsvs st [] = some [] := (rfl)
theorem rsvs_cons {p : PV} {ps : List PV} : rsvs st (p :: ps) = kcons (rsv st p) (rsvs st ps) := by
  rw [rsvs]
  unfold kcons
  all_goals (cases rsv st p <;> cases rsvs st ps <;> rfl)
theorem kcons_ap {d : D} {ds : List D} : kcons (some d) (some ds) = some (d :: ds) := (rfl)
theorem wp_osN : wp osN st Qo E = Qo [] st := by unfold wp; rfl
theorem wp_osC {a : R PV} {r : R (List PV)} : wp (osC a r) st Qo E = wp a st (kb (fun p => bnd r fun ps => ret (p :: ps)) Qo E) E := wp_bnd
theorem wp_lsN : wp lsN st Ql E = Ql [] st := by unfold wp; rfl
theorem wp_lsC {a : R D} {r : R (List D)} : wp (lsC a r) st Ql E = wp a st (kb (fun p => bnd r fun ps => ret (p :: ps)) Ql E) E := wp_bnd
theorem wp_fsN : wp fsN st Qfs E = Qfs [] st := by unfold wp; rfl
theorem wp_fsC {a : R (D × Bool)} {r : R (List (D × Bool))} : wp (fsC a r) st Qfs E = wp a st (kb (fun p => bnd r fun ps => ret (p :: ps)) Qfs E) E := wp_bnd
theorem wp_opd {m : R (D × Bool)} : wp (opd m) st Q E = wp m st (kb (fun p => ret (.d p.1)) Q E) E := wp_bnd
theorem wp_frz {m : R (D × Bool)} : wp (frz m) st QD E = wp m st (kb (fun p => ret p.1) QD E) E := wp_bnd
theorem wp_tupM {m : R (List D)} : wp (tupM m) st Qd E = wp m st (kb (fun ds => if small ds then ret (.tup ds, false) else stuck) Qd E) E := wp_bnd
theorem wp_lstM {m : R (List D)} : wp (lstM m) st Qd E = wp m st (kb (fun ds => if small ds then ret (.lst ds, true) else stuck) Qd E) E := wp_bnd
/-! tests -/
def ktst : D → R Bool := fun d => match d with
  | .bl b => ret b
  | _ => stuck
theorem wp_tst {m : R (D × Bool)} : wp (tst m) st Qb E = wp m st (kb (fun p => ktst p.1) Qb E) E := wp_bnd
theorem ktst_bl {b : Bool} : ktst (.bl b) = ret b := (rfl)
theorem wp_notB {m : R Bool} : wp (notB m) st Qb E = wp m st (kb (fun b => ret (!b)) Qb E) E := wp_bnd
theorem wp_andB {a b : R Bool} : wp (andB a b) st Qb E = wp a st (kb (fun x => if x then b else ret false) Qb E) E := wp_bnd
theorem wp_orB {a b : R Bool} : wp (orB a b) st Qb E = wp a st (kb (fun x => if x then ret true else b) Qb E) E := wp_bnd
theorem wp_andV {a b : R (D × Bool)} : wp (andV a b) st Qd E = wp (tst a) st (kb (fun x => if x then b else ret (.bl false, false)) Qd E) E := wp_bnd
theorem wp_orV {a b : R (D × Bool)} : wp (orV a b) st Qd E = wp (tst a) st (kb (fun x => if x then ret (.bl true, false) else b) Qd E) E := wp_bnd
theorem wp_notV {a : R (D × Bool)} : wp (notV a) st Qd E = wp (tst a) st (kb (fun x => ret (.bl (!x), false)) Qd E) E := wp_bnd
theorem wp_ifE {α : Type} {c : R Bool} {a b : R α} {Q : α → SS → Prop} : wp (ifE c a b) st Q E = wp c st (kb (fun x => if x then a else b) Q E) E := wp_bnd
theorem wp_drop {m : R (D × Bool)} : wp (drop m) st Qf E = wp m st (kb (fun _ => ret .nx) Qf E) E := wp_bnd
theorem wp_retM {m : R (D × Bool)} : wp (retM m) st Qf E = wp m st (kb (fun a => ret (.rt a)) Qf E) E := wp_bnd
theorem wp_retN : wp retN st Qf E = Qf (.rt (.non, false)) st := by unfold wp; rfl
/-! stores -/
def fr : SV → Bool
  | .ow true _ => false
  | _ => true
def pl : SV → Bool
  | .ow _ _ => false
  | _ => true
theorem fr_v {d : D} : fr (.v d) = true := (rfl)
theorem fr_un : fr .un = true := (rfl)
theorem fr_ow {d : D} : fr (.ow false d) = true := (rfl)
theorem pl_v {d : D} : pl (.v d) = true := (rfl)
theorem pl_un : pl .un = true := (rfl)
theorem fr_pl {s : SV} (h : pl s = true) : fr s = true := by
  cases s with
  | ow l d => cases h
  | _ => rfl
def frO : Option SV → Prop
  | some s => fr s = true
  | none => False
def plO : Option SV → Prop
  | some s => pl s = true
  | none => False
theorem frO_ap {s : SV} : frO (some s) = (fr s = true) := (rfl)
theorem plO_ap {s : SV} : plO (some s) = (pl s = true) := (rfl)
def slot (a : D × Bool) : SV := if a.2 then .ow false a.1 else .v a.1
theorem slot_f {d : D} : slot (d, false) = .v d := (rfl)
theorem slot_t {d : D} : slot (d, true) = .ow false d := (rfl)
theorem wp_put {i : Nat} {a : D × Bool} : wp (put i a) st Qu E = (frO st[i]? ∧ Qu () (st.set i (slot a))) := by
  unfold wp put frO slot
  cases st[i]? with
  | none => simp
  | some s =>
    cases s with
    | ow l d => cases l <;> simp [fr]
    | _ => simp [fr]
theorem wp_setM {i : Nat} {m : R (D × Bool)} : wp (setM i m) st Qf E = wp m st (kb (fun a => bnd (put i a) fun _ => ret .nx) Qf E) E := wp_bnd
theorem wp_parM {is : List Nat} {m : R (List (D × Bool))} : wp (parM is m) st Qf E = wp m st (kb (fun as => bnd (puts is as) fun _ => ret .nx) Qf E) E := wp_bnd
theorem puts_nil : puts [] [] = ret () := (rfl)
theorem puts_cons {i : Nat} {is : List Nat} {a : D × Bool} {as : List (D × Bool)} : puts (i :: is) (a :: as) = bnd (put i a) fun _ => puts is as := (rfl)
def wt (t : TM) (d : D) (st : SS) (P : SS → Prop) : Prop := wo (t d st) P
def wts (t : TMs) (d : List D) (st : SS) (P : SS → Prop) : Prop := wo (t d st) P
def kt (r : TMs) (ds : List D) (P : SS → Prop) : SS → Prop := fun st => wts r ds st P
theorem kt_ap {r : TMs} {ds : List D} {P : SS → Prop} : kt r ds P st = wts r ds st P := (rfl)
theorem wt_N {i : Nat} {d : D} {P : SS → Prop} : wt (tgN i) d st P = (frO st[i]? ∧ P (st.set i (.v d))) := by
  unfold wt tgN frO wo
  cases st[i]? with
  | none => simp
  | some s =>
    cases s with
    | ow l d => cases l <;> simp [fr]
    | _ => simp [fr]
theorem wts_nil {P : SS → Prop} : wts tgNil [] st P = P st := (rfl)
theorem wts_cons {t : TM} {r : TMs} {d : D} {ds : List D} {P : SS → Prop} : wts (tgCons t r) (d :: ds) st P = wt t d st (kt r ds P) := by
  cases h : t d st <;> simp [wts, wt, tgCons, kt, h, wo]
theorem wt_T {n : Nat} {r : TMs} {ds : List D} {P : SS → Prop} : wt (tgT n r) (.tup ds) st P = (ds.length = n ∧ wts r ds st P) := by
  unfold wt tgT wts
  by_cases h : ds.length = n <;> simp [h, wo]
theorem wp_setT {t : TM} {m : R D} : wp (setT t m) st Qf E = wp m st (kb (fun d => fun st => match t d st with
  | some st' => some (.ok .nx, st')
  | none => none) Qf E) E := wp_bnd
theorem wp_tg {t : TM} {d : D} : wp (fun st => match t d st with
  | some st' => some (.ok .nx, st')
  | none => none : R Fl) st Qf E = wt t d st (fun s => Qf .nx s) := by
  cases h : t d st <;> simp [wp, wt, wo, h]
/-! lists in slots -/
def kap (Q : D × Bool → SS → Prop) (st : SS) (i : Nat) (d : D) : Option SV → Prop
  | some (.ow l (.lst ds)) => ds.length < sizeLine ∧ Q (.non, false) (st.set i (.ow l (.lst (ds ++ [d]))))
  | _ => False
theorem wp_appU {i : Nat} {d : D} : wp (appU i d) st Qd E = kap Qd st i d st[i]? := by
  unfold wp appU kap
  cases st[i]? with
  | none => rfl
  | some s =>
    cases s with
    | ow l x =>
      cases x with
      | lst ds => by_cases h : ds.length < sizeLine <;> simp [h]
      | _ => rfl
    | _ => rfl
theorem kap_ap {i : Nat} {d : D} {l : Bool} {ds : List D} : kap Qd st i d (some (.ow l (.lst ds))) = (ds.length < sizeLine ∧ Qd (.non, false) (st.set i (.ow l (.lst (ds ++ [d]))))) := (rfl)
def isL : Option SV → Prop
  | some (.ow _ (.lst _)) => True
  | _ => False
theorem isL_ap {l : Bool} {ds : List D} : isL (some (.ow l (.lst ds))) = True := (rfl)
def kapp (i : Nat) : List D → R (D × Bool) := fun ds => match ds with
    | [d] => appU i d
    | _ => stuck
theorem kapp_ap {i : Nat} {d : D} : kapp i [d] = appU i d := (rfl)
theorem wp_appE {i : Nat} {m : R (List D)} : wp (appE i m) st Qd E = (isL st[i]? ∧ wp m st (kb (kapp i) Qd E) E) := by
  unfold appE isL
  cases h : st[i]? with
  | none => simp [wp, h]
  | some s =>
    cases s with
    | ow l x =>
      cases x with
      | lst ds =>
        rw [← wp_bnd]
        simp only [wp, h, true_and]
        rfl
      | _ => simp [wp, h]
    | _ => simp [wp, h]
def kset (Q : Fl → SS → Prop) (st : SS) (i : Nat) (d : D) : Option SV → Option D → Prop
  | some (.ow l (.lst ds)), some (.int j) => wo (ixN ds.length j) fun n => Q .nx (st.set i (.ow l (.lst (ds.set n d))))
  | _, _ => False
def setP (i : Nat) (d : D) (p : PV) : R Fl := fun st => match rsv st p with
    | some x => setU i d x st
    | none => none
theorem wp_setP {i : Nat} {d : D} {p : PV} : wp (setP i d p) st Qf E = kset Qf st i d st[i]? (rsv st p) := by
  unfold wp setP setU kset
  cases rsv st p with
  | none => cases st[i]? with
    | none => rfl
    | some s => cases s with
      | ow l x => cases x <;> rfl
      | _ => rfl
  | some x =>
    cases st[i]? with
    | none => rfl
    | some s =>
      cases s with
      | ow l y =>
        cases y with
        | lst ds =>
          cases x with
          | int j => cases h : ixN ds.length j <;> simp [wo, h]
          | _ => rfl
        | _ => rfl
      | _ => rfl
theorem kset_ap {i : Nat} {d : D} {l : Bool} {ds : List D} {j : Int} : kset Qf st i d (some (.ow l (.lst ds))) (some (.int j)) = wo (ixN ds.length j) fun n => Qf .nx (st.set i (.ow l (.lst (ds.set n d)))) := (rfl)
def setQ (i : Nat) (k : R PV) (d : D) : R Fl := fun st => match st[i]? with
  | some (.ow _ (.lst _)) => bnd k (setP i d) st
  | _ => none
theorem wp_setIx {i : Nat} {k : R PV} {m : R D} : wp (setIx i k m) st Qf E = wp m st (kb (setQ i k) Qf E) E := wp_bnd
theorem wp_setQ {i : Nat} {k : R PV} {d : D} : wp (setQ i k d) st Qf E = (isL st[i]? ∧ wp k st (kb (setP i d) Qf E) E) := by
  unfold setQ isL
  cases h : st[i]? with
  | none => simp [wp, h]
  | some s =>
    cases s with
    | ow l x =>
      cases x with
      | lst ds =>
        rw [← wp_bnd]
        simp only [wp, h, true_and]
      | _ => simp [wp, h]
    | _ => simp [wp, h]
/-! calls -/
def kpb (Q : D × Bool → SS → Prop) (E : Ex → SS → Prop) (ps : List PV) (st : SS) (a : D × Bool) (svs : SS) : Prop := wo (putBack ps svs st) (Q a)
def kpe (E : Ex → SS → Prop) (ps : List PV) (st : SS) (x : Ex) (svs : SS) : Prop := wo (putBack ps svs st) (E x)
def kcall (F : R (D × Bool)) (Q : D × Bool → SS → Prop) (E : Ex → SS → Prop) (ps : List PV) (st : SS) : Option SS → Prop
  | some svs => nodupN (pks st ps) = true ∧ wp F svs (kpb Q E ps st) (kpe E ps st)
  | none => False
theorem wp_useF {F : R (D × Bool)} {ps : List PV} : wp (useF F ps) st Qd E = kcall F Qd E ps st (argsOf st ps) := by
  unfold wp useF kcall kpb kpe wp wo
  cases argsOf st ps with
  | none => rfl
  | some svs =>
    by_cases h : nodupN (pks st ps) = true
    · simp only [h, if_true, true_and]
      cases F svs with
      | none => rfl
      | some p =>
        rcases p with ⟨e | r, s⟩ <;> simp only <;> cases putBack ps s st <;> rfl
    · simp [h]
theorem kcall_ap {F : R (D × Bool)} {ps : List PV} {svs : SS} : kcall F Qd E ps st (some svs) = (nodupN (pks st ps) = true ∧ wp F svs (kpb Qd E ps st) (kpe E ps st)) := (rfl)
theorem kpb_ap {ps : List PV} {a : D × Bool} {svs : SS} : kpb Qd E ps st a svs = wo (putBack ps svs st) (Qd a) := (rfl)
theorem kpe_ap {ps : List PV} {x : Ex} {svs : SS} : kpe E ps st x svs = wo (putBack ps svs st) (E x) := (rfl)
theorem wp_callM {F : R (D × Bool)} {m : R (List PV)} : wp (callM F m) st Qd E = wp m st (kb (useF F) Qd E) E := wp_bnd
def kargs : Option SV → Option SS → Option SS
  | some s, some ss => some (s :: ss)
  | _, _ => none
theorem kargs_ap {s : SV} {ss : SS} : kargs (some s) (some ss) = some (s :: ss) := (rfl)
theorem argsOf_nil : argsOf st [] = some [] := (rfl)
theorem argsOf_cons {p : PV} {ps : List PV} : argsOf st (p :: ps) = kargs (argOf st p) (argsOf st ps) := by
  unfold kargs
  rw [argsOf]
  all_goals (cases argOf st p <;> cases argsOf st ps <;> rfl)
theorem argOf_d {d : D} : argOf st (.d d) = some (.v d) := (rfl)
def karg : Option SV → Option SV
  | some (.v d) => some (.v d)
  | some (.ow _ d) => some (.ow true d)
  | _ => none
theorem argOf_pk {i : Nat} : argOf st (.pk i) = karg st[i]? := by
  cases h : st[i]? with
  | none => simp [argOf, karg, h]
  | some s => cases s <;> simp [argOf, karg, h]
theorem karg_v {d : D} : karg (some (.v d)) = some (.v d) := (rfl)
theorem karg_ow {l : Bool} {d : D} : karg (some (.ow l d)) = some (.ow true d) := (rfl)
theorem pks_nil : pks st [] = [] := (rfl)
theorem pks_d {d : D} {ps : List PV} : pks st (.d d :: ps) = pks st ps := (rfl)
def kpks (i : Nat) (r : List Nat) : Option SV → List Nat
  | some (.ow _ _) => i :: r
  | _ => r
theorem pks_pk {i : Nat} {ps : List PV} : pks st (.pk i :: ps) = kpks i (pks st ps) st[i]? := by
  cases h : st[i]? with
  | none => simp [pks, kpks, h]
  | some s => cases s <;> simp [pks, kpks, h]
theorem kpks_ow {i : Nat} {r : List Nat} {l : Bool} {d : D} : kpks i r (some (.ow l d)) = i :: r := (rfl)
theorem kpks_v {i : Nat} {r : List Nat} {d : D} : kpks i r (some (.v d)) = r := (rfl)
theorem nodupN_nil : nodupN [] = true := (rfl)
theorem nodupN_one {i : Nat} : nodupN [i] = true := (rfl)
theorem nodupN_cons {i : Nat} {r : List Nat} : nodupN (i :: r) = (!r.contains i && nodupN r) := (rfl)
theorem pb_nil : putBack [] [] st = some st := (rfl)
theorem pb_d {d d' : D} {ps : List PV} {ss : SS} : putBack (.d d :: ps) (.v d' :: ss) st = putBack ps ss st := (rfl)
theorem pb_dU {d : D} {ps : List PV} {ss : SS} : putBack (.d d :: ps) (.un :: ss) st = putBack ps ss st := (rfl)
def kpbk (ps : List PV) (ss : SS) (st : SS) (i : Nat) (d : D) : Option SV → Option SS
  | some (.ow l _) => putBack ps ss (st.set i (.ow l d))
  | _ => none
theorem pb_pk {i : Nat} {d : D} {ps : List PV} {ss : SS} : putBack (.pk i :: ps) (.ow true d :: ss) st = kpbk ps ss st i d st[i]? := by
  cases h : st[i]? with
  | none => simp [putBack, kpbk, h]
  | some s => cases s <;> simp [putBack, kpbk, h, isOw]
theorem kpbk_ap {i : Nat} {l : Bool} {d d' : D} {ps : List PV} {ss : SS} : kpbk ps ss st i d (some (.ow l d')) = putBack ps ss (st.set i (.ow l d)) := (rfl)
/-! a function's body -/
def kr (svs : SS) (Q : D × Bool → SS → Prop) (r : Fl) (st : SS) : Prop := match r with
  | .rt a => Q a (back svs st)
  | .nx => Q (.non, false) (back svs st)
  | _ => False
def kre (svs : SS) (E : Ex → SS → Prop) (x : Ex) (st : SS) : Prop := E x (back svs st)
theorem kr_rt {svs : SS} {a : D × Bool} : kr svs Qd (.rt a) st = Qd a (back svs st) := (rfl)
theorem kr_nx {svs : SS} : kr svs Qd .nx st = Qd (.non, false) (back svs st) := (rfl)
theorem kre_ap {svs : SS} {x : Ex} : kre svs E x st = E x (back svs st) := (rfl)
theorem wp_runB {n : Nat} {body : R Fl} {svs : SS} : wp (runB n body) svs Qd E = wp body (svs ++ List.replicate (n - svs.length) .un) (kr svs Qd) (kre svs E) := by
  unfold wp runB kr kre
  cases body (svs ++ List.replicate (n - svs.length) .un) with
  | none => rfl
  | some p =>
    rcases p with ⟨e | r, s⟩
    · rfl
    · cases r <;> rfl
theorem back_nil : back [] st = [] := by cases st <;> rfl
theorem back_v {d : D} {svs : SS} {s : SV} : back (.v d :: svs) (s :: st) = .v d :: back svs st := (rfl)
theorem back_ow {l : Bool} {d : D} {svs : SS} {s : SV} : back (.ow l d :: svs) (s :: st) = s :: back svs st := (rfl)
/-! loops -/
theorem wp_forM {src : R (List D)} {t : TM} {body : R Fl} : wp (forM src t body) st Qf E = wp src st (kb (fun ds => forGo t body ds) Qf E) E := wp_bnd
theorem wp_srcV {m : R D} : wp (srcV m) st Ql E = wp m st (kb (fun d => lift (seqOf d)) Ql E) E := wp_bnd
theorem wp_srcA {f : List D → Option (List D)} {m : R (List D)} : wp (srcA f m) st Ql E = wp m st (kb (fun ds => lift (f ds)) Ql E) E := wp_bnd
def kfor (I : SS → Prop) (Q : Fl → SS → Prop) (r : Fl) (st : SS) : Prop := match r with
  | .nx => I st
  | .ct => I st
  | .bk => Q .nx st
  | .rt a => Q (.rt a) st
theorem kfor_nx {I : SS → Prop} : kfor I Qf .nx st = I st := (rfl)
theorem kfor_ct {I : SS → Prop} : kfor I Qf .ct st = I st := (rfl)
theorem kfor_bk {I : SS → Prop} : kfor I Qf .bk st = Qf .nx st := (rfl)
theorem kfor_rt {I : SS → Prop} {a : D × Bool} : kfor I Qf (.rt a) st = Qf (.rt a) st := (rfl)
theorem wp_forGo_cons {t : TM} {body : R Fl} {d : D} {ds : List D} : wp (forGo t body (d :: ds)) st Qf E = wt t d st fun s => wp body s (kfor (fun s2 => wp (forGo t body ds) s2 Qf E) Qf) E := by
  simp only [wp, wt, kfor, wo, forGo]
  cases t d st with
  | none => rfl
  | some s =>
    simp only
    cases body s with
    | none => rfl
    | some p =>
      rcases p with ⟨e | r, s⟩
      · rfl
      · cases r <;> rfl
theorem wp_forGo_nil {t : TM} {body : R Fl} : wp (forGo t body []) st Qf E = Qf .nx st := by unfold wp; rfl
theorem wt_mono {t : TM} {d : D} {P P' : SS → Prop} (h : wt t d st P) (hp : ∀ s, P s → P' s) : wt t d st P' := by
  unfold wt wo at h ⊢
  split at h
  · exact hp _ h
  · exact h.elim
theorem kfor_mono {I I' : SS → Prop} (h : ∀ s, I s → I' s) {r : Fl} {s : SS} (k : kfor I Qf r s) : kfor I' Qf r s := by
  cases r <;> first | exact h _ k | exact k
theorem wp_for' {t : TM} {body : R Fl} : ∀ (ds : List D) (I : Nat → SS → Prop) (st : SS), I 0 st →
    (∀ i d st, ds[i]? = some d → I i st → wt t d st fun s => wp body s (kfor (I (i + 1)) Qf) E) → (∀ st, I ds.length st → Qf .nx st) → wp (forGo t body ds) st Qf E
  | [], I, st, h0, _, h2 => by rw [wp_forGo_nil]; exact h2 _ h0
  | d :: ds, I, st, h0, h1, h2 => by
    rw [wp_forGo_cons]
    refine wt_mono (h1 0 d st rfl h0) fun s k => ?_
    refine wp_mono k (fun r s k => kfor_mono (fun s2 h => ?_) k) fun _ _ k => k
    exact wp_for' ds (fun i => I (i + 1)) s2 h (fun i d st e => h1 (i + 1) d st e) fun st => h2 st
/-- a loop, by what stands after each turn -/
theorem wp_for {t : TM} {body : R Fl} {ds : List D} {st : SS} (I : Nat → SS → Prop) (h0 : I 0 st)
    (h1 : ∀ i d st, ds[i]? = some d → I i st → wt t d st fun s => wp body s (kfor (I (i + 1)) Qf) E) (h2 : ∀ st, I ds.length st → Qf .nx st) : wp (forGo t body ds) st Qf E := wp_for' ds I st h0 h1 h2
theorem wp_whGo {c : R Bool} {body : R Fl} {n : Nat} : wp (whGo c body (n + 1)) st Qf E = wp c st (kb (fun b => if b then fun st => match body st with
      | none => none
      | some (.error x, st2) => some (.error x, st2)
      | some (.ok .nx, st2) => whGo c body n st2
      | some (.ok .ct, st2) => whGo c body n st2
      | some (.ok .bk, st2) => some (.ok .nx, st2)
      | some (.ok (.rt a), st2) => some (.ok (.rt a), st2)
    else ret .nx) Qf E) E := wp_bnd
theorem wp_turn {c : R Bool} {body : R Fl} {n : Nat} : wp (fun st => match body st with
      | none => none
      | some (.error x, st2) => some (.error x, st2)
      | some (.ok .nx, st2) => whGo c body n st2
      | some (.ok .ct, st2) => whGo c body n st2
      | some (.ok .bk, st2) => some (.ok .nx, st2)
      | some (.ok (.rt a), st2) => some (.ok (.rt a), st2) : R Fl) st Qf E = wp body st (kfor (fun s2 => wp (whGo c body n) s2 Qf E) Qf) E := by
  unfold wp kfor
  dsimp only
  cases body st with
  | none => rfl
  | some p =>
    rcases p with ⟨e | r, s⟩
    · rfl
    · cases r <;> rfl
/-- a while loop: a measure m and what holds at its head -/
theorem wp_while {c : R Bool} {body : R Fl} (I : Nat → SS → Prop) : ∀ (n : Nat) (m : Nat) (st : SS), m < n → I m st →
    (∀ m st, I m st → wp c st (fun b s => if b then wp body s (kfor (fun s2 => ∃ m', m' < m ∧ I m' s2) Qf) E else Qf .nx s) E) → wp (whGo c body n) st Qf E
  | 0, m, st, hm, _, _ => absurd hm (Nat.not_lt_zero _)
  | n + 1, m, st, hm, h0, h1 => by
    rw [wp_whGo]
    refine wp_mono (h1 m st h0) (fun b s k => ?_) fun _ _ k => k
    rw [kb_ap]
    cases b with
    | false =>
      simp only [Bool.false_eq_true, if_false] at k ⊢
      rw [wp_ret]
      exact k
    | true =>
      simp only [if_true] at k ⊢
      rw [wp_turn]
      refine wp_mono k (fun r s k => kfor_mono (fun s2 h => ?_) k) fun _ _ k => k
      obtain ⟨m', h3, h4⟩ := h
      exact wp_while I n m' s2 (by omega) h4 h1
/-! comprehensions -/
def wb (own : List Nat) (st : SS) (P : SS → Prop) : Prop := wo (wip own st) P
theorem wb_nil {P : SS → Prop} : wb [] st P = P st := (rfl)
def npO : Option SV → Prop
  | some s => pl s = true
  | none => True
theorem npO_ap {s : SV} : npO (some s) = (pl s = true) := (rfl)
theorem wb_cons {j : Nat} {js : List Nat} {P : SS → Prop} : wb (j :: js) st P = wb js st fun s => npO s[j]? ∧ P (s.set j .un) := by
  unfold wb
  rw [wip]
  cases wip js st with
  | none => rfl
  | some s =>
    simp only [wo]
    cases h : s[j]? with
    | none => simp [npO]
    | some x => cases x <;> simp [npO, pl]
def lcB (own : List Nat) (t : TM) (c : R Bool) (elt : R D) (ds : List D) : R (D × Bool) := fun st => match wip own st with
  | none => none
  | some st1 => match lcGo own t c elt ds st1 with
    | some (.ok es, st2) => if small es then some (.ok (.lst es, true), rst st own st2) else none
    | _ => none
theorem wp_lcM {own : List Nat} {src : R (List D)} {t : TM} {c : R Bool} {m : R D} : wp (lcM own src t c m) st Qd E = wp src st (kb (lcB own t c m) Qd E) E := wp_bnd
def klc (Q : D × Bool → SS → Prop) (st : SS) (own : List Nat) (es : List D) (s : SS) : Prop := small es = true ∧ Q (.lst es, true) (rst st own s)
theorem klc_ap {own : List Nat} {es : List D} {s : SS} : klc Qd st own es s = (small es = true ∧ Qd (.lst es, true) (rst st own s)) := (rfl)
theorem wp_lcB {own : List Nat} {t : TM} {c : R Bool} {m : R D} {ds : List D} : wp (lcB own t c m ds) st Qd E = wb own st (fun s => wp (lcGo own t c m ds) s (klc Qd st own) NoE) := by
  unfold lcB wb
  cases h : wip own st with
  | none => simp [wp, h, wo]
  | some s =>
    simp only [wo, wp, h]
    cases lcGo own t c m ds s with
    | none => rfl
    | some p =>
      rcases p with ⟨e | r, s⟩
      · rfl
      · by_cases h : small r = true <;> simp [h, klc]
def kel (own : List Nat) (J : D → SS → Prop) (e : D) (s : SS) : Prop := wb own s (J e)
theorem kel_ap {own : List Nat} {J : D → SS → Prop} {e : D} : kel own J e st = wb own st (J e) := (rfl)
def kco (own : List Nat) (m : R D) (J : D → SS → Prop) (J' : SS → Prop) (b : Bool) (s : SS) : Prop := if b then wp m s (kel own J) NoE else wb own s J'
theorem kco_t {own : List Nat} {m : R D} {J : D → SS → Prop} {J' : SS → Prop} : kco own m J J' true st = wp m st (kel own J) NoE := (rfl)
theorem kco_f {own : List Nat} {m : R D} {J : D → SS → Prop} {J' : SS → Prop} : kco own m J J' false st = wb own st J' := (rfl)
theorem kco_d {own : List Nat} {m : R D} {J : D → SS → Prop} {J' : SS → Prop} {p : Prop} [Decidable p] : kco own m J J' (decide p) st = if p then wp m st (kel own J) NoE else wb own st J' := by
  by_cases h : p <;> simp [h, kco]
theorem wb_mono {own : List Nat} {P P' : SS → Prop} (h : wb own st P) (hp : ∀ s, P s → P' s) : wb own st P' := by
  unfold wb wo at h ⊢
  split at h
  · exact hp _ h
  · exact h.elim
theorem noE_no {x : Ex} {s : SS} (h : NoE x s) : False := h
theorem wp_lcGo {own : List Nat} {t : TM} {c : R Bool} {m : R D} : ∀ (ds : List D) (I : Nat → List D → SS → Prop) (es0 : List D) (Q : List D → SS → Prop) (st : SS), I 0 es0 st →
    (∀ i d es st, ds[i]? = some d → I i es st → wt t d st fun s => wp c s (kco own m (fun e => I (i + 1) (es ++ [e])) (I (i + 1) es)) NoE) →
    (∀ es st, I ds.length es st → Q es st) → wp (lcGo own t c m ds) st (fun es s => Q (es0 ++ es) s) NoE
  | [], I, es0, Q, st, h0, _, h2 => by
    rw [show lcGo own t c m [] = ret [] from rfl, wp_ret, List.append_nil]
    exact h2 _ _ h0
  | d :: ds, I, es0, Q, st, h0, h1, h2 => by
    have z := h1 0 d es0 st rfl h0
    unfold wt wo at z
    unfold wp lcGo
    split at z
    · rename_i s e
      simp only [e]
      unfold wp at z
      split at z
      · rename_i b s2 e2
        simp only [e2]
        cases b with
        | false =>
          simp only [kco, Bool.false_eq_true, if_false] at z ⊢
          unfold wb wo at z
          split at z
          · rename_i s3 e3
            simp only [e3]
            have q := wp_lcGo ds (fun i => I (i + 1)) es0 Q s3 z (fun i d es st e => h1 (i + 1) d es st e) h2
            unfold wp at q
            exact q
          · exact z.elim
        | true =>
          simp only [kco, if_true] at z ⊢
          unfold wp at z
          split at z
          · rename_i y s3 e3
            simp only [e3]
            unfold kel wb wo at z
            split at z
            · rename_i s4 e4
              simp only [e4]
              have q := wp_lcGo ds (fun i => I (i + 1)) (es0 ++ [y]) Q s4 z (fun i d es st e => h1 (i + 1) d es st e) h2
              unfold wp at q
              cases h : lcGo own t c m ds s4 with
              | none => rw [h] at q; exact q.elim
              | some p =>
                rcases p with ⟨x | r, s5⟩
                · rw [h] at q; exact q.elim
                · rw [h] at q
                  simp only [List.append_assoc, List.singleton_append] at q
                  exact q
            · exact z.elim
          · exact z.elim
          · exact z.elim
      · exact z.elim
      · exact z.elim
    · exact z.elim
/-- a comprehension, by what stands after each turn -/
theorem wp_lc {own : List Nat} {t : TM} {c : R Bool} {m : R D} {ds : List D} {Q : List D → SS → Prop} (I : Nat → List D → SS → Prop) (h0 : I 0 [] st)
    (h1 : ∀ i d es st, ds[i]? = some d → I i es st → wt t d st fun s => wp c s (kco own m (fun e => I (i + 1) (es ++ [e])) (I (i + 1) es)) NoE) (h2 : ∀ es st, I ds.length es st → Q es st) : wp (lcGo own t c m ds) st Q NoE := by
  have := wp_lcGo ds I [] Q st h0 h1 h2
  simpa using this
/-- one that leaves the slots as they were -/
theorem wp_lcS {own : List Nat} {t : TM} {c : R Bool} {m : R D} {ds : List D} {Q : List D → SS → Prop} (f : D → Option D) (h1 : ∀ d, d ∈ ds → wt t d st fun s => wp c s (kco own m (fun e s => f d = some e ∧ s = st) (fun s => f d = none ∧ s = st)) NoE)
    (h2 : Q (ds.filterMap f) st) : wp (lcGo own t c m ds) st Q NoE := by
  refine wp_lc (fun i es s => es = (ds.take i).filterMap f ∧ s = st) ⟨by simp, rfl⟩ (fun i d es s e h => ?_) fun es s h => ?_
  · obtain ⟨rfl, rfl⟩ := h
    have hm : d ∈ ds := List.mem_of_getElem? e
    have hl : i < ds.length := by
      by_cases z : i < ds.length
      · exact z
      · rw [List.getElem?_eq_none (by omega)] at e; cases e
    have ht : ds.take (i + 1) = ds.take i ++ [d] := by
      rw [List.take_add_one, e]; rfl
    refine wt_mono (h1 d hm) fun s k => wp_mono k (fun b s2 k => ?_) fun _ _ k => k
    cases b with
    | true =>
      rw [kco_t] at k ⊢
      refine wp_mono k (fun e2 s3 k => ?_) fun _ _ k => k
      rw [kel_ap] at k ⊢
      refine wb_mono k fun s4 h => ⟨?_, h.2⟩
      rw [ht, List.filterMap_append]
      simp [h.1]
    | false =>
      rw [kco_f] at k ⊢
      refine wb_mono k fun s4 h => ⟨?_, h.2⟩
      rw [ht, List.filterMap_append]
      simp [h.1]
  · obtain ⟨rfl, rfl⟩ := h
    simpa using h2
end
end G
namespace G
open PySem PySem.Spec PyProof.Rows L2
/-! ### what operators come to -/
theorem o_lt {i j : Int} : ltF (.int i) (.int j) = some (.bl (decide (i < j)), false) := (rfl)
theorem o_le {i j : Int} : leF (.int i) (.int j) = some (.bl (decide (i ≤ j)), false) := (rfl)
theorem o_gt {i j : Int} : gtF (.int i) (.int j) = some (.bl (decide (j < i)), false) := (rfl)
theorem o_ge {i j : Int} : geF (.int i) (.int j) = some (.bl (decide (j ≤ i)), false) := (rfl)
theorem o_add {i j : Int} : addF (.int i) (.int j) = some (.int (i + j), false) := (rfl)
theorem o_sub {i j : Int} : subF (.int i) (.int j) = some (.int (i - j), false) := (rfl)
def mulOk (i j : Int) : Prop := i.natAbs.log2 + j.natAbs.log2 < 1000000
def divOk (j : Int) : Prop := 0 < j ∧ j.natAbs.log2 < 9000
def modOk (j : Int) : Prop := 0 < j
def powOk (i j : Int) : Prop := 0 ≤ j ∧ j ≤ 1000000 ∧ i.natAbs < 2 ^ 64
def inB (j : Int) : Prop := -big ≤ j ∧ j < big
theorem o_mul {i j : Int} {P : D × Bool → Prop} : wo (mulF (.int i) (.int j)) P = (mulOk i j ∧ P (.int (i * j), false)) := wo_ite
theorem o_div {i j : Int} {P : D × Bool → Prop} : wo (divF (.int i) (.int j)) P = (divOk j ∧ P (.int (i / j), false)) := wo_ite
theorem o_mod {i j : Int} {P : D × Bool → Prop} : wo (modF (.int i) (.int j)) P = (modOk j ∧ P (.int (i % j), false)) := wo_ite
theorem o_pow {i j : Int} {P : D × Bool → Prop} : wo (powF (.int i) (.int j)) P = (powOk i j ∧ P (.int (i ^ j.toNat), false)) := wo_ite
theorem o_rng1 {j : Int} {P : List D → Prop} : wo (rng1 [.int j]) P = (inB j ∧ P (intsF 0 j.toNat)) := wo_ite
theorem o_rng2 {i j : Int} {P : List D → Prop} : wo (rng2 [.int i, .int j]) P = (inB i ∧ inB j ∧ P (intsF i (j - i).toNat)) := by
  show wo (if -big ≤ i ∧ i < big ∧ -big ≤ j ∧ j < big then some (intsF i (j - i).toNat) else none) P = _
  rw [wo_ite]
  unfold inB
  exact propext ⟨fun h => ⟨⟨h.1.1, h.1.2.1⟩, h.1.2.2, h.2⟩, fun h => ⟨⟨h.1.1, h.1.2, h.2.1⟩, h.2.2⟩⟩
theorem inB_of {j : Int} (h : -1000000000000 ≤ j) (h2 : j < 1000000000000) : inB j := by
  unfold inB big
  omega
theorem log2_lt' {n k : Nat} (h : n < 2 ^ k) (hk : 0 < k) : n.log2 < k := by
  by_cases h0 : n = 0
  · subst h0
    have e : Nat.log2 0 = 0 := by decide
    rw [e]
    exact hk
  · exact (Nat.log2_lt h0).mpr h
theorem log2_le' {n : Nat} {i : Int} {k : Nat} (h : -(2 ^ k : Int) < i) (h2 : i < 2 ^ k) (hk : 0 < k) : i.natAbs.log2 < k := by
  apply log2_lt' _ hk
  have : ((2 ^ k : Nat) : Int) = (2 : Int) ^ k := by norm_cast
  omega
theorem mulOk_of {i j : Int} (h1 : -(2 ^ 2000 : Int) < i) (h2 : i < 2 ^ 2000) (h3 : -(2 ^ 2000 : Int) < j) (h4 : j < 2 ^ 2000) : mulOk i j := by
  have a := log2_le' (n := 0) h1 h2 (by decide)
  have b := log2_le' (n := 0) h3 h4 (by decide)
  unfold mulOk
  omega
theorem divOk_of {j : Int} (h3 : 0 < j) (h4 : j < 2 ^ 2000) : divOk j := by
  have b := log2_le' (n := 0) (i := j) (k := 2000) (by have : (0 : Int) < 2 ^ 2000 := Int.pow_pos (by decide)
                                                       omega) h4 (by decide)
  exact ⟨h3, by omega⟩
theorem at_0 {α : Type} {a : α} {l : List α} : atI (a :: l) 0 = some a := by
  unfold atI ixN
  have : (0 : Int) < ((a :: l).length : Int) := by simp only [List.length_cons]; omega
  simp [this]
theorem at_nat {α : Type} {l : List α} {n : Nat} : atI l (n : Int) = l[n]? := by
  unfold atI ixN
  by_cases h : n < l.length
  · have : (n : Int) < l.length := by omega
    simp [this]
  · have : ¬ (n : Int) < l.length := by omega
    simp [this]
    omega
theorem at_1 {α : Type} {a b : α} {l : List α} : atI (a :: b :: l) 1 = some b := at_nat (n := 1)
theorem at_2 {α : Type} {a b c : α} {l : List α} : atI (a :: b :: c :: l) 2 = some c := at_nat (n := 2)
theorem at_3 {α : Type} {a b c d : α} {l : List α} : atI (a :: b :: c :: d :: l) 3 = some d := at_nat (n := 3)
theorem at_4 {α : Type} {a b c d e : α} {l : List α} : atI (a :: b :: c :: d :: e :: l) 4 = some e := at_nat (n := 4)
theorem at_5 {α : Type} {a b c d e f : α} {l : List α} : atI (a :: b :: c :: d :: e :: f :: l) 5 = some f := at_nat (n := 5)
theorem ix_nat {n m : Nat} (h : m < n) : ixN n (m : Int) = some m := by
  unfold ixN
  have : (m : Int) < n := by omega
  simp [this]
theorem ix_0 {n : Nat} : ixN (n + 1) 0 = some 0 := ix_nat (m := 0) (by omega)
theorem ix_1 {n : Nat} : ixN (n + 2) 1 = some 1 := ix_nat (m := 1) (by omega)
theorem ix_2 {n : Nat} : ixN (n + 3) 2 = some 2 := ix_nat (m := 2) (by omega)
theorem ix_3 {n : Nat} : ixN (n + 4) 3 = some 3 := ix_nat (m := 3) (by omega)
theorem small_of {α : Type} {xs : List α} (h : xs.length ≤ 1000000) : small xs = true := by
  unfold small
  have : (1000000 : Nat) ≤ sizeLine := by decide
  simp only [decide_eq_true_eq]
  omega
theorem idx_l {ds : List D} {i : Int} : idxF (.lst ds) (.int i) = (atI ds i).map fun d => (d, false) := (rfl)
theorem idx_t {ds : List D} {i : Int} : idxF (.tup ds) (.int i) = (atI ds i).map fun d => (d, false) := (rfl)
theorem o_eq {neg : Bool} {i j : Int} : eqF neg (.int i) (.int j) = some (.bl (decide (i = j) != neg), false) := by
  unfold eqF
  simp only [D.plain, D.eqv, Bool.and_self, if_true]
  rfl
theorem o_eqb {neg : Bool} {i j : Bool} : eqF neg (.bl i) (.bl j) = some (.bl (decide (i = j) != neg), false) := by
  unfold eqF
  simp only [D.plain, D.eqv, Bool.and_self, if_true]
  rfl
theorem small_nil {α : Type} : small ([] : List α) = true := (rfl)
theorem small_c1 {α : Type} {a : α} : small [a] = true := (rfl)
theorem small_c2 {α : Type} {a b : α} : small [a, b] = true := (rfl)
theorem small_c3 {α : Type} {a b c : α} : small [a, b, c] = true := (rfl)
theorem small_c4 {α : Type} {a b c d : α} : small [a, b, c, d] = true := (rfl)
theorem small_c5 {α : Type} {a b c d e : α} : small [a, b, c, d, e] = true := (rfl)
theorem small_c6 {α : Type} {a b c d e f : α} : small [a, b, c, d, e, f] = true := (rfl)
theorem bne_f {b : Bool} : (b != false) = b := by cases b <;> rfl
theorem bne_t {b : Bool} : (b != true) = !b := by cases b <;> rfl
theorem dec_not {p : Prop} [Decidable p] : (!decide p) = decide (¬ p) := by by_cases h : p <;> simp [h]
theorem ty_int_non : isTy "int" .non = false := (rfl)
theorem ty_int_bl {b : Bool} : isTy "int" (.bl b) = true := (rfl)
theorem ty_int_int {i : Int} : isTy "int" (.int i) = true := (rfl)
theorem ty_int_str {x : Str} : isTy "int" (.str x) = false := (rfl)
theorem ty_int_tup {ds : List D} : isTy "int" (.tup ds) = false := (rfl)
theorem ty_int_lst {ds : List D} : isTy "int" (.lst ds) = false := (rfl)
theorem ty_int_dic {a b : List D} : isTy "int" (.dic a b) = false := (rfl)
theorem ty_int_set {ds : List D} : isTy "int" (.set ds) = false := (rfl)
theorem ty_bool_non : isTy "bool" .non = false := (rfl)
theorem ty_bool_bl {b : Bool} : isTy "bool" (.bl b) = true := (rfl)
theorem ty_bool_int {i : Int} : isTy "bool" (.int i) = false := (rfl)
theorem ty_bool_str {x : Str} : isTy "bool" (.str x) = false := (rfl)
theorem ty_bool_tup {ds : List D} : isTy "bool" (.tup ds) = false := (rfl)
theorem ty_bool_lst {ds : List D} : isTy "bool" (.lst ds) = false := (rfl)
theorem ty_bool_dic {a b : List D} : isTy "bool" (.dic a b) = false := (rfl)
theorem ty_bool_set {ds : List D} : isTy "bool" (.set ds) = false := (rfl)
theorem ty_str_non : isTy "str" .non = false := (rfl)
theorem ty_str_bl {b : Bool} : isTy "str" (.bl b) = false := (rfl)
theorem ty_str_int {i : Int} : isTy "str" (.int i) = false := (rfl)
theorem ty_str_str {x : Str} : isTy "str" (.str x) = true := (rfl)
theorem ty_str_tup {ds : List D} : isTy "str" (.tup ds) = false := (rfl)
theorem ty_str_lst {ds : List D} : isTy "str" (.lst ds) = false := (rfl)
theorem ty_str_dic {a b : List D} : isTy "str" (.dic a b) = false := (rfl)
theorem ty_str_set {ds : List D} : isTy "str" (.set ds) = false := (rfl)
theorem ty_tuple_non : isTy "tuple" .non = false := (rfl)
theorem ty_tuple_bl {b : Bool} : isTy "tuple" (.bl b) = false := (rfl)
theorem ty_tuple_int {i : Int} : isTy "tuple" (.int i) = false := (rfl)
theorem ty_tuple_str {x : Str} : isTy "tuple" (.str x) = false := (rfl)
theorem ty_tuple_tup {ds : List D} : isTy "tuple" (.tup ds) = true := (rfl)
theorem ty_tuple_lst {ds : List D} : isTy "tuple" (.lst ds) = false := (rfl)
theorem ty_tuple_dic {a b : List D} : isTy "tuple" (.dic a b) = false := (rfl)
theorem ty_tuple_set {ds : List D} : isTy "tuple" (.set ds) = false := (rfl)
theorem ty_list_non : isTy "list" .non = false := (rfl)
theorem ty_list_bl {b : Bool} : isTy "list" (.bl b) = false := (rfl)
theorem ty_list_int {i : Int} : isTy "list" (.int i) = false := (rfl)
theorem ty_list_str {x : Str} : isTy "list" (.str x) = false := (rfl)
theorem ty_list_tup {ds : List D} : isTy "list" (.tup ds) = false := (rfl)
theorem ty_list_lst {ds : List D} : isTy "list" (.lst ds) = true := (rfl)
theorem ty_list_dic {a b : List D} : isTy "list" (.dic a b) = false := (rfl)
theorem ty_list_set {ds : List D} : isTy "list" (.set ds) = false := (rfl)
theorem ty_dict_non : isTy "dict" .non = false := (rfl)
theorem ty_dict_bl {b : Bool} : isTy "dict" (.bl b) = false := (rfl)
theorem ty_dict_int {i : Int} : isTy "dict" (.int i) = false := (rfl)
theorem ty_dict_str {x : Str} : isTy "dict" (.str x) = false := (rfl)
theorem ty_dict_tup {ds : List D} : isTy "dict" (.tup ds) = false := (rfl)
theorem ty_dict_lst {ds : List D} : isTy "dict" (.lst ds) = false := (rfl)
theorem ty_dict_dic {a b : List D} : isTy "dict" (.dic a b) = true := (rfl)
theorem ty_dict_set {ds : List D} : isTy "dict" (.set ds) = false := (rfl)
theorem ty_set_non : isTy "set" .non = false := (rfl)
theorem ty_set_bl {b : Bool} : isTy "set" (.bl b) = false := (rfl)
theorem ty_set_int {i : Int} : isTy "set" (.int i) = false := (rfl)
theorem ty_set_str {x : Str} : isTy "set" (.str x) = false := (rfl)
theorem ty_set_tup {ds : List D} : isTy "set" (.tup ds) = false := (rfl)
theorem ty_set_lst {ds : List D} : isTy "set" (.lst ds) = false := (rfl)
theorem ty_set_dic {a b : List D} : isTy "set" (.dic a b) = false := (rfl)
theorem ty_set_set {ds : List D} : isTy "set" (.set ds) = true := (rfl)
theorem o_isi {f : D → Bool} {m : R PV} {st : SS} {Q : D × Bool → SS → Prop} {E : Ex → SS → Prop} : wp (isiM f m) st Q E = wp m st (kb (fun p => use1 (fun d => some (.bl (f d), false)) p) Q E) E := wp_bnd
theorem o_addl {a b : List D} {P : D × Bool → Prop} : wo (addF (.lst a) (.lst b)) P = (a.length + b.length ≤ sizeLine ∧ P (.lst (a ++ b), true)) := wo_ite
theorem o_addt {a b : List D} {P : D × Bool → Prop} : wo (addF (.tup a) (.tup b)) P = (a.length + b.length ≤ sizeLine ∧ P (.tup (a ++ b), false)) := wo_ite
theorem o_mull {a : List D} {k : Int} {P : D × Bool → Prop} : wo (mulF (.lst a) (.int k)) P = ((-(2 ^ 63) ≤ k ∧ k < 2 ^ 63 ∧ a.length * k.toNat ≤ sizeLine) ∧ P (.lst (List.replicate k.toNat a).flatten, true)) := wo_ite
theorem o_mulb {x : D} {p : Prop} [Decidable p] {P : D × Bool → Prop} : wo (mulF (.lst [x]) (.int (if p then 1 else 0))) P = P (.lst (if p then [x] else []), true) := by
  rw [o_mull]
  by_cases h : p
  · simp only [h, if_true]
    refine propext ⟨fun h => h.2, fun h => ⟨⟨by decide, by decide, by simp only [List.length_cons, List.length_nil]; decide⟩, h⟩⟩
  · simp only [h, if_false]
    refine propext ⟨fun h => h.2, fun h => ⟨⟨by decide, by decide, by simp⟩, h⟩⟩
theorem o_int {p : Prop} [Decidable p] : intF [.bl (decide p)] = some (.int (if p then 1 else 0), false) := by
  by_cases h : p <;> simp [h, intF]
theorem o_inti {i : Int} : intF [.int i] = some (.int i, false) := (rfl)
theorem intsF_len {lo : Int} {n : Nat} : (intsF lo n).length = n := by simp [intsF]
theorem intsF_get {lo : Int} {n i : Nat} {d : D} (h : (intsF lo n)[i]? = some d) : i < n ∧ d = .int (lo + (i : Int)) := by
  unfold intsF at h
  rw [List.getElem?_map] at h
  by_cases z : i < n
  · rw [List.getElem?_range z] at h
    exact ⟨z, (Option.some.inj h).symm⟩
  · rw [List.getElem?_eq_none (by simp; omega)] at h
    cases h
/-- a loop over a list, by what stands ahead of the rest of it -/
theorem wp_forL {α : Type} {dec : α → D} {t : TM} {body : R Fl} {Qf : Fl → SS → Prop} {E : Ex → SS → Prop} (I : List α → SS → Prop) (h1 : ∀ x xs st, I (x :: xs) st → wt t (dec x) st fun s => wp body s (kfor (I xs) Qf) E) (h2 : ∀ st, I [] st → Qf .nx st) :
    ∀ (xs : List α) (st : SS), I xs st → wp (forGo t body (xs.map dec)) st Qf E
  | [], st, h => by
    rw [List.map_nil, wp_forGo_nil]
    exact h2 st h
  | x :: xs, st, h => by
    rw [List.map_cons, wp_forGo_cons]
    refine wt_mono (h1 x xs st h) fun s k => ?_
    exact wp_mono k (fun r s k => kfor_mono (fun s2 h => wp_forL I h1 h2 xs s2 h) k) fun _ _ k => k
theorem sz {n : Nat} (h : n ≤ 1000000) : n ≤ sizeLine := Nat.le_trans h (by decide)
theorem sz' {n : Nat} (h : n ≤ 1000000) : n < sizeLine := Nat.lt_of_le_of_lt h (by decide)
theorem nums_int (ns : List Int) : nums (ns.map D.int) = some ns := by
  induction ns with
  | nil => rfl
  | cons n ns ih => rw [List.map_cons, nums, ih]; rfl
theorem opt_len {α : Type} {p : Prop} [Decidable p] {x : α} : (if p then [x] else []).length ≤ 1 := by split <;> simp
end G
namespace G.C
open PySem PySem.Spec PyProof.Rows L2
def b__law_box : R Fl := (retM (lstM (lsC (frz (cst (.int 0))) (lsC (frz (cst (.int 0))) (lsC (frz (opN listF (osC (pk 0) osN))) (lsC (frz (cst (.int 1))) lsN))))))
def F__law_box : R (D × Bool) := runB 1 b__law_box
def b__law_draw : R Fl := (seq (ifE (tst (op2 ltF (opd (op2 idxF (pk 0) (opd (cst (.int 0))))) (pk 1))) (seq (setM 2 (op2 idxF (pk 0) (opd (cst (.int 1)))))
  (seq (setIx 0 (opd (cst (.int 1))) (frz (op2 addF (pk 2) (opd (cst (.int 1))))))
  (seq (setM 3 (cst (.int 0)))
  (seq (ifE (tst (op2 ltF (pk 2) (opd (opN lenF (osC (opd (op2 idxF (pk 0) (opd (cst (.int 2))))) osN))))) (setM 3 (op2 idxF (opd (op2 idxF (pk 0) (opd (cst (.int 2))))) (pk 2))) (ret .nx))
  (seq (ifE (tst (op2 ltF (pk 3) (opd (cst (.int 0))))) (setM 3 (op2 subF (opd (op2 subF (opd (cst (.int 0))) (opd (cst (.int 1))))) (pk 3))) (ret .nx))
  (ifE (tst (op2 geF (pk 3) (opd (op2 powF (opd (cst (.int 10))) (opd (cst (.int 18))))))) (setIx 0 (opd (cst (.int 0))) (frz (rd 3))) (seq (setIx 0 (opd (cst (.int 3))) (frz (op2 modF (opd (opN intF (osC (opd (op2 mulF (opd (op2 addF (opd (op2 addF (opd (op2 addF (opd (op2 idxF (pk 0) (opd (cst (.int 3))))) (opd (op2 modF (opd (opN intF (osC (pk 3) osN))) (opd (cst (.int 2147483629))))))) (pk 2))) (opd (cst (.int 1))))) (opd (cst (.int 48271))))) osN))) (opd (cst (.int 2147483647))))))
  (seq (setM 4 (op2 modF (opd (opN intF (osC (opd (op2 addF (opd (op2 mulF (opd (op2 idxF (pk 0) (opd (cst (.int 3))))) (opd (cst (.int 69621))))) (opd (cst (.int 11))))) osN))) (opd (cst (.int 2147483629)))))
  (setIx 0 (opd (cst (.int 0))) (frz (op2 addF (opd (op2 mulF (pk 4) (opd (cst (.int 2147483647))))) (opd (op2 modF (opd (opN intF (osC (opd (op2 addF (opd (op2 mulF (pk 4) (opd (cst (.int 30011))))) (opd (op2 idxF (pk 0) (opd (cst (.int 3))))))) osN))) (opd (cst (.int 2147483587)))))))))))))))) (ret .nx))
  (seq (setM 5 (op2 modF (opd (opN intF (osC (opd (op2 idxF (pk 0) (opd (cst (.int 0))))) osN))) (pk 1)))
  (seq (setIx 0 (opd (cst (.int 0))) (frz (op2 divF (opd (op2 idxF (pk 0) (opd (cst (.int 0))))) (pk 1))))
  (retM (mv 5)))))
def F__law_draw : R (D × Bool) := runB 6 b__law_draw
def b__law_same (F__law_same : R (D × Bool)) : R Fl := (seq (ifE (tst (isiM (fun d => isTy "tuple" d || isTy "list" d) (pk 0))) (seq (ifE (orB (tst (op2 (eqF true) (opd (isiM (isTy "tuple") (pk 0))) (opd (isiM (isTy "tuple") (pk 1))))) (orB (tst (op2 (eqF true) (opd (isiM (isTy "list") (pk 0))) (opd (isiM (isTy "list") (pk 1))))) (tst (op2 (eqF true) (opd (opN lenF (osC (pk 0) osN))) (opd (opN lenF (osC (pk 1) osN))))))) (retM (cst (.bl false))) (ret .nx))
  (retM (op2 (eqF false) (opd (opN lenF (osC (opd (lcM [2, 3] (srcA zipF (lsC (frz (rd 0)) (lsC (frz (rd 1)) lsN))) (tgT 2 (tgCons (tgN 2) (tgCons (tgN 3) tgNil))) (notB (tst (callM F__law_same (osC (opd (rd 2)) (osC (opd (rd 3)) osN))))) (frz (cst (.int 1))))) osN))) (opd (cst (.int 0)))))) (ret .nx))
  (retM (andV (op2 (eqF false) (opd (isiM (isTy "bool") (pk 0))) (opd (isiM (isTy "bool") (pk 1)))) (op2 (eqF false) (pk 0) (pk 1)))))
def F__law_same : Nat → R (D × Bool)
  | 0 => stuck
  | n + 1 => runB 4 (b__law_same (F__law_same n))

/-! ### the box of digits -/
structure Box where
  a : Int
  t : Nat
  s : List Int
  c : Int
def boxD (b : Box) : D := .lst [.int b.a, .int (b.t : Int), .lst (b.s.map .int), .int b.c]
structure BoxOk (i : Nat) (b : Box) : Prop where
  a : 0 ≤ b.a
  t : b.t ≤ i
  c0 : 0 ≤ b.c
  c : b.c < 2147483647
theorem BoxOk.mono {i j : Nat} {b : Box} (h : BoxOk i b) (l : i ≤ j) : BoxOk j b := ⟨h.a, Nat.le_trans h.t l, h.c0, h.c⟩
theorem wp_box {ns : List Int} {Q : D × Bool → SS → Prop} {E : Ex → SS → Prop} (h : ∀ b, BoxOk 0 b → Q (boxD b, true) [.v (.lst (ns.map .int))]) : wp F__law_box [.v (.lst (ns.map .int))] Q E := by
  have z := h ⟨0, 0, ns, 1⟩ ⟨Int.le_refl 0, Nat.le_refl _, by show (0 : Int) ≤ 1; decide, by show (1 : Int) < 2147483647; decide⟩
  unfold F__law_box b__law_box
  simp only [wp_ret, wp_stuck, wp_bnd, kb_ap, wp_lift, wo_some, wo_none, wo_ite, wo_map, wp_ite, ks_nx, ks_rt, ks_bk, ks_ct, wp_seq, wp_pk, kpk_v, kpk_ow, wp_rd, krd_v, krd_ow, wp_mv, kmv_v, kmv_ow, wp_cst, wp_use2, k2_ap, wp_op2, wp_use1, k1_ap, wp_op1, wp_useN, kN_ap, wp_opN, rsv_d, rsv_pk, ksv_v, ksv_ow, rsvs_nil, rsvs_cons, kcons_ap, wp_osN, wp_osC, wp_lsN, wp_lsC, wp_fsN, wp_fsC, wp_opd, wp_frz, wp_tupM, wp_lstM, wp_tst, ktst_bl, wp_notB, wp_andB, wp_orB, wp_andV, wp_orV, wp_notV, wp_ifE, wp_drop, wp_retM, wp_retN, fr_v, fr_un, fr_ow, pl_v, pl_un, fr_pl, frO_ap, plO_ap, slot_f, slot_t, wp_put, wp_setM, wp_parM, puts_nil, puts_cons, kt_ap, wt_N, wts_nil, wts_cons, wt_T, wp_setT, wp_tg, wp_appU, kap_ap, isL_ap, kapp_ap, wp_appE, wp_setP, kset_ap, wp_setIx, wp_setQ, wp_useF, kcall_ap, kpb_ap, kpe_ap, wp_callM, kargs_ap, argsOf_nil, argsOf_cons, argOf_d, argOf_pk, karg_v, karg_ow, pks_nil, pks_d, pks_pk, kpks_ow, kpks_v, nodupN_nil, nodupN_one, nodupN_cons, pb_nil, pb_d, pb_dU, pb_pk, kpbk_ap, kr_rt, kr_nx, kre_ap, wp_runB, back_nil, back_v, back_ow, wp_forM, wp_srcV, wp_srcA, kfor_nx, kfor_ct, kfor_bk, kfor_rt, wp_forGo_nil, wb_nil, npO_ap, wb_cons, wp_lcM, klc_ap, wp_lcB, kel_ap, kco_t, kco_f, kco_d, List.getElem?_cons_zero, List.getElem?_cons_succ, List.set_cons_zero, List.set_cons_succ, List.length_cons, List.length_nil, List.length_append, List.replicate_succ, List.replicate_zero, List.cons_append, List.nil_append, if_true, if_false, ite_true, ite_false, Bool.false_eq_true, true_and, and_true, decide_eq_true_eq, Bool.not_true, Bool.not_false, Bool.not_eq_true', decide_eq_false_iff_not, reduceIte, reduceCtorEq, Nat.zero_add, Nat.reduceAdd, Nat.reduceSub, List.contains_nil, List.contains_cons, Bool.and_true, Bool.or_false, Bool.and_self, beq_self_eq_true, Nat.reduceBEq, Nat.reduceEqDiff, Nat.succ_eq_add_one, rst, List.getD_cons_zero, List.getD_cons_succ, isF, lenF, listF, tupleF, o_int, o_inti, o_addl, o_addt, o_mulb, absF, minF, maxF, sumF, seqOf, not_true_eq_false, not_false_eq_true, Bool.or_true, Bool.true_or, Bool.false_or, Bool.true_and, Bool.false_and, Bool.and_false, Option.map_some, Option.map_none, bne_f, bne_t, dec_not, fr_pl, nums_int, List.length_map, o_lt, o_le, o_gt, o_ge, o_add, o_sub, o_mul, o_div, o_mod, o_pow, o_rng1, o_rng2, at_0, at_1, at_2, at_3, at_4, at_5, at_nat, ix_0, ix_1, ix_2, ix_3, idx_l, idx_t, o_eq, o_eqb, small_nil, small_c1, small_c2, small_c3, small_c4, small_c5, small_c6, o_isi, ty_int_non, ty_int_bl, ty_int_int, ty_int_str, ty_int_tup, ty_int_lst, ty_int_dic, ty_int_set, ty_bool_non, ty_bool_bl, ty_bool_int, ty_bool_str, ty_bool_tup, ty_bool_lst, ty_bool_dic, ty_bool_set, ty_str_non, ty_str_bl, ty_str_int, ty_str_str, ty_str_tup, ty_str_lst, ty_str_dic, ty_str_set, ty_tuple_non, ty_tuple_bl, ty_tuple_int, ty_tuple_str, ty_tuple_tup, ty_tuple_lst, ty_tuple_dic, ty_tuple_set, ty_list_non, ty_list_bl, ty_list_int, ty_list_str, ty_list_tup, ty_list_lst, ty_list_dic, ty_list_set, ty_dict_non, ty_dict_bl, ty_dict_int, ty_dict_str, ty_dict_tup, ty_dict_lst, ty_dict_dic, ty_dict_set, ty_set_non, ty_set_bl, ty_set_int, ty_set_str, ty_set_tup, ty_set_lst, ty_set_dic, ty_set_set]
  exact z
def cellOf (x : Int) : Int := if x < 0 then 0 - 1 - x else x
theorem cellOf_nn (x : Int) : 0 ≤ cellOf x := by unfold cellOf; split <;> omega
theorem at_map {s : List Int} {t : Nat} (h : (t : Int) < (s.length : Int)) : ∃ x : Int, (s.map D.int)[t]? = some (.int x) := by
  exact ⟨s[t]'(by omega), by rw [List.getElem?_map, List.getElem?_eq_getElem (by omega)]; rfl⟩
theorem mulOk_sm {i j : Int} (h1 : 0 ≤ i) (h2 : i < 100000000000000000000) (h3 : 0 ≤ j) (h4 : j < 100000000000000000000) : mulOk i j := by
  apply mulOk_of <;> omega
theorem wp_draw {b : Box} {n : Int} {i : Nat} {Q : D × Bool → SS → Prop} {E : Ex → SS → Prop} (ok : BoxOk i b) (hn : 0 < n) (hn2 : n < 1000000000) (hi : i < 1000000000000)
    (h : ∀ (r : Nat) b', (r : Int) < n → BoxOk (i + 1) b' → Q (.int r, false) [.ow true (boxD b'), .v (.int n)]) : wp F__law_draw [.ow true (boxD b), .v (.int n)] Q E := by
  obtain ⟨a, t, s, c⟩ := b
  obtain ⟨ha, ht, hc0, hc⟩ := ok
  dsimp only at ha ht hc0 hc
  have fin : ∀ (X : Int) (u : Nat) (d : Int), 0 ≤ X → u ≤ i + 1 → 0 ≤ d → d < 2147483647 → modOk n ∧ divOk n ∧ Q (.int (X % n), false) [.ow true (.lst [.int (X / n), .int (u : Int), .lst (s.map .int), .int d]), .v (.int n)] := fun X u d h1 h2 h3 h4 => by
    have z := h (X % n).toNat ⟨X / n, u, s, d⟩ (by have := Int.emod_lt_of_pos X hn; have := Int.emod_nonneg X (by omega : n ≠ 0); omega) ⟨Int.ediv_nonneg h1 (by omega), h2, h3, h4⟩
    rw [Int.toNat_of_nonneg (Int.emod_nonneg X (by omega : n ≠ 0))] at z
    exact ⟨hn, divOk_of hn (by omega), z⟩
  have mix : ∀ x : Int, 0 ≤ x → modOk 2147483629 ∧ mulOk (c + x % 2147483629 + (t : Int) + 1) 48271 ∧ modOk 2147483647 ∧ mulOk ((c + x % 2147483629 + (t : Int) + 1) * 48271 % 2147483647) 69621 ∧ modOk 2147483629 ∧
      mulOk (((c + x % 2147483629 + (t : Int) + 1) * 48271 % 2147483647 * 69621 + 11) % 2147483629) 2147483647 ∧ mulOk (((c + x % 2147483629 + (t : Int) + 1) * 48271 % 2147483647 * 69621 + 11) % 2147483629) 30011 ∧ modOk 2147483587 ∧ modOk n ∧ divOk n ∧
      Q (.int ((((c + x % 2147483629 + (t : Int) + 1) * 48271 % 2147483647 * 69621 + 11) % 2147483629 * 2147483647 + (((c + x % 2147483629 + (t : Int) + 1) * 48271 % 2147483647 * 69621 + 11) % 2147483629 * 30011 + (c + x % 2147483629 + (t : Int) + 1) * 48271 % 2147483647) % 2147483587) % n), false)
        [.ow true (.lst [.int ((((c + x % 2147483629 + (t : Int) + 1) * 48271 % 2147483647 * 69621 + 11) % 2147483629 * 2147483647 + (((c + x % 2147483629 + (t : Int) + 1) * 48271 % 2147483647 * 69621 + 11) % 2147483629 * 30011 + (c + x % 2147483629 + (t : Int) + 1) * 48271 % 2147483647) % 2147483587) / n), .int ((t : Int) + 1), .lst (s.map .int), .int ((c + x % 2147483629 + (t : Int) + 1) * 48271 % 2147483647)]), .v (.int n)] := fun x hx => by
    have x1 := Int.emod_nonneg x (by decide : (2147483629 : Int) ≠ 0)
    have x2 := Int.emod_lt_of_pos x (by decide : (0 : Int) < 2147483629)
    generalize hg : c + x % 2147483629 + (t : Int) + 1 = g
    have g1 : 0 ≤ g := by omega
    have g2 : g < 100000000000000000000 := by omega
    have y1 := Int.emod_nonneg (g * 48271) (by decide : (2147483647 : Int) ≠ 0)
    have y2 := Int.emod_lt_of_pos (g * 48271) (by decide : (0 : Int) < 2147483647)
    generalize g * 48271 % 2147483647 = e at y1 y2 ⊢
    have z1 := Int.emod_nonneg (e * 69621 + 11) (by decide : (2147483629 : Int) ≠ 0)
    have z2 := Int.emod_lt_of_pos (e * 69621 + 11) (by decide : (0 : Int) < 2147483629)
    generalize (e * 69621 + 11) % 2147483629 = m at z1 z2 ⊢
    have v1 := Int.emod_nonneg (m * 30011 + e) (by decide : (2147483587 : Int) ≠ 0)
    refine ⟨by unfold modOk; omega, mulOk_sm (by omega) (by omega) (by omega) (by omega), by unfold modOk; omega, mulOk_sm (by omega) (by omega) (by omega) (by omega), by unfold modOk; omega, mulOk_sm (by omega) (by omega) (by omega) (by omega), mulOk_sm (by omega) (by omega) (by omega) (by omega), by unfold modOk; omega, ?_⟩
    exact fin _ (t + 1) e (by omega) (by omega) y1 y2
  have pw : powOk 10 18 := ⟨by omega, by omega, by decide⟩
  unfold F__law_draw b__law_draw boxD
  dsimp only
  by_cases h0 : a < n
  · by_cases h1 : (t : Int) < (s.length : Int)
    · obtain ⟨x, hx⟩ := at_map h1
      by_cases h2 : x < 0
      · by_cases h3 : (10 : Int) ^ Int.toNat 18 ≤ 0 - 1 - x
        · simp only [wp_ret, wp_stuck, wp_bnd, kb_ap, wp_lift, wo_some, wo_none, wo_ite, wo_map, wp_ite, ks_nx, ks_rt, ks_bk, ks_ct, wp_seq, wp_pk, kpk_v, kpk_ow, wp_rd, krd_v, krd_ow, wp_mv, kmv_v, kmv_ow, wp_cst, wp_use2, k2_ap, wp_op2, wp_use1, k1_ap, wp_op1, wp_useN, kN_ap, wp_opN, rsv_d, rsv_pk, ksv_v, ksv_ow, rsvs_nil, rsvs_cons, kcons_ap, wp_osN, wp_osC, wp_lsN, wp_lsC, wp_fsN, wp_fsC, wp_opd, wp_frz, wp_tupM, wp_lstM, wp_tst, ktst_bl, wp_notB, wp_andB, wp_orB, wp_andV, wp_orV, wp_notV, wp_ifE, wp_drop, wp_retM, wp_retN, fr_v, fr_un, fr_ow, pl_v, pl_un, fr_pl, frO_ap, plO_ap, slot_f, slot_t, wp_put, wp_setM, wp_parM, puts_nil, puts_cons, kt_ap, wt_N, wts_nil, wts_cons, wt_T, wp_setT, wp_tg, wp_appU, kap_ap, isL_ap, kapp_ap, wp_appE, wp_setP, kset_ap, wp_setIx, wp_setQ, wp_useF, kcall_ap, kpb_ap, kpe_ap, wp_callM, kargs_ap, argsOf_nil, argsOf_cons, argOf_d, argOf_pk, karg_v, karg_ow, pks_nil, pks_d, pks_pk, kpks_ow, kpks_v, nodupN_nil, nodupN_one, nodupN_cons, pb_nil, pb_d, pb_dU, pb_pk, kpbk_ap, kr_rt, kr_nx, kre_ap, wp_runB, back_nil, back_v, back_ow, wp_forM, wp_srcV, wp_srcA, kfor_nx, kfor_ct, kfor_bk, kfor_rt, wp_forGo_nil, wb_nil, npO_ap, wb_cons, wp_lcM, klc_ap, wp_lcB, kel_ap, kco_t, kco_f, kco_d, List.getElem?_cons_zero, List.getElem?_cons_succ, List.set_cons_zero, List.set_cons_succ, List.length_cons, List.length_nil, List.length_append, List.replicate_succ, List.replicate_zero, List.cons_append, List.nil_append, if_true, if_false, ite_true, ite_false, Bool.false_eq_true, true_and, and_true, decide_eq_true_eq, Bool.not_true, Bool.not_false, Bool.not_eq_true', decide_eq_false_iff_not, reduceIte, reduceCtorEq, Nat.zero_add, Nat.reduceAdd, Nat.reduceSub, List.contains_nil, List.contains_cons, Bool.and_true, Bool.or_false, Bool.and_self, beq_self_eq_true, Nat.reduceBEq, Nat.reduceEqDiff, Nat.succ_eq_add_one, rst, List.getD_cons_zero, List.getD_cons_succ, isF, lenF, listF, tupleF, o_int, o_inti, o_addl, o_addt, o_mulb, absF, minF, maxF, sumF, seqOf, not_true_eq_false, not_false_eq_true, Bool.or_true, Bool.true_or, Bool.false_or, Bool.true_and, Bool.false_and, Bool.and_false, Option.map_some, Option.map_none, bne_f, bne_t, dec_not, fr_pl, nums_int, List.length_map, o_lt, o_le, o_gt, o_ge, o_add, o_sub, o_mul, o_div, o_mod, o_pow, o_rng1, o_rng2, at_0, at_1, at_2, at_3, at_4, at_5, at_nat, ix_0, ix_1, ix_2, ix_3, idx_l, idx_t, o_eq, o_eqb, small_nil, small_c1, small_c2, small_c3, small_c4, small_c5, small_c6, o_isi, ty_int_non, ty_int_bl, ty_int_int, ty_int_str, ty_int_tup, ty_int_lst, ty_int_dic, ty_int_set, ty_bool_non, ty_bool_bl, ty_bool_int, ty_bool_str, ty_bool_tup, ty_bool_lst, ty_bool_dic, ty_bool_set, ty_str_non, ty_str_bl, ty_str_int, ty_str_str, ty_str_tup, ty_str_lst, ty_str_dic, ty_str_set, ty_tuple_non, ty_tuple_bl, ty_tuple_int, ty_tuple_str, ty_tuple_tup, ty_tuple_lst, ty_tuple_dic, ty_tuple_set, ty_list_non, ty_list_bl, ty_list_int, ty_list_str, ty_list_tup, ty_list_lst, ty_list_dic, ty_list_set, ty_dict_non, ty_dict_bl, ty_dict_int, ty_dict_str, ty_dict_tup, ty_dict_lst, ty_dict_dic, ty_dict_set, ty_set_non, ty_set_bl, ty_set_int, ty_set_str, ty_set_tup, ty_set_lst, ty_set_dic, ty_set_set, h0, h1, hx, h2, h3]
          exact ⟨pw, fin _ (t + 1) c (by omega) (by omega) hc0 hc⟩
        · simp only [wp_ret, wp_stuck, wp_bnd, kb_ap, wp_lift, wo_some, wo_none, wo_ite, wo_map, wp_ite, ks_nx, ks_rt, ks_bk, ks_ct, wp_seq, wp_pk, kpk_v, kpk_ow, wp_rd, krd_v, krd_ow, wp_mv, kmv_v, kmv_ow, wp_cst, wp_use2, k2_ap, wp_op2, wp_use1, k1_ap, wp_op1, wp_useN, kN_ap, wp_opN, rsv_d, rsv_pk, ksv_v, ksv_ow, rsvs_nil, rsvs_cons, kcons_ap, wp_osN, wp_osC, wp_lsN, wp_lsC, wp_fsN, wp_fsC, wp_opd, wp_frz, wp_tupM, wp_lstM, wp_tst, ktst_bl, wp_notB, wp_andB, wp_orB, wp_andV, wp_orV, wp_notV, wp_ifE, wp_drop, wp_retM, wp_retN, fr_v, fr_un, fr_ow, pl_v, pl_un, fr_pl, frO_ap, plO_ap, slot_f, slot_t, wp_put, wp_setM, wp_parM, puts_nil, puts_cons, kt_ap, wt_N, wts_nil, wts_cons, wt_T, wp_setT, wp_tg, wp_appU, kap_ap, isL_ap, kapp_ap, wp_appE, wp_setP, kset_ap, wp_setIx, wp_setQ, wp_useF, kcall_ap, kpb_ap, kpe_ap, wp_callM, kargs_ap, argsOf_nil, argsOf_cons, argOf_d, argOf_pk, karg_v, karg_ow, pks_nil, pks_d, pks_pk, kpks_ow, kpks_v, nodupN_nil, nodupN_one, nodupN_cons, pb_nil, pb_d, pb_dU, pb_pk, kpbk_ap, kr_rt, kr_nx, kre_ap, wp_runB, back_nil, back_v, back_ow, wp_forM, wp_srcV, wp_srcA, kfor_nx, kfor_ct, kfor_bk, kfor_rt, wp_forGo_nil, wb_nil, npO_ap, wb_cons, wp_lcM, klc_ap, wp_lcB, kel_ap, kco_t, kco_f, kco_d, List.getElem?_cons_zero, List.getElem?_cons_succ, List.set_cons_zero, List.set_cons_succ, List.length_cons, List.length_nil, List.length_append, List.replicate_succ, List.replicate_zero, List.cons_append, List.nil_append, if_true, if_false, ite_true, ite_false, Bool.false_eq_true, true_and, and_true, decide_eq_true_eq, Bool.not_true, Bool.not_false, Bool.not_eq_true', decide_eq_false_iff_not, reduceIte, reduceCtorEq, Nat.zero_add, Nat.reduceAdd, Nat.reduceSub, List.contains_nil, List.contains_cons, Bool.and_true, Bool.or_false, Bool.and_self, beq_self_eq_true, Nat.reduceBEq, Nat.reduceEqDiff, Nat.succ_eq_add_one, rst, List.getD_cons_zero, List.getD_cons_succ, isF, lenF, listF, tupleF, o_int, o_inti, o_addl, o_addt, o_mulb, absF, minF, maxF, sumF, seqOf, not_true_eq_false, not_false_eq_true, Bool.or_true, Bool.true_or, Bool.false_or, Bool.true_and, Bool.false_and, Bool.and_false, Option.map_some, Option.map_none, bne_f, bne_t, dec_not, fr_pl, nums_int, List.length_map, o_lt, o_le, o_gt, o_ge, o_add, o_sub, o_mul, o_div, o_mod, o_pow, o_rng1, o_rng2, at_0, at_1, at_2, at_3, at_4, at_5, at_nat, ix_0, ix_1, ix_2, ix_3, idx_l, idx_t, o_eq, o_eqb, small_nil, small_c1, small_c2, small_c3, small_c4, small_c5, small_c6, o_isi, ty_int_non, ty_int_bl, ty_int_int, ty_int_str, ty_int_tup, ty_int_lst, ty_int_dic, ty_int_set, ty_bool_non, ty_bool_bl, ty_bool_int, ty_bool_str, ty_bool_tup, ty_bool_lst, ty_bool_dic, ty_bool_set, ty_str_non, ty_str_bl, ty_str_int, ty_str_str, ty_str_tup, ty_str_lst, ty_str_dic, ty_str_set, ty_tuple_non, ty_tuple_bl, ty_tuple_int, ty_tuple_str, ty_tuple_tup, ty_tuple_lst, ty_tuple_dic, ty_tuple_set, ty_list_non, ty_list_bl, ty_list_int, ty_list_str, ty_list_tup, ty_list_lst, ty_list_dic, ty_list_set, ty_dict_non, ty_dict_bl, ty_dict_int, ty_dict_str, ty_dict_tup, ty_dict_lst, ty_dict_dic, ty_dict_set, ty_set_non, ty_set_bl, ty_set_int, ty_set_str, ty_set_tup, ty_set_lst, ty_set_dic, ty_set_set, h0, h1, hx, h2, h3]
          exact ⟨pw, mix _ (by omega)⟩
      · by_cases h3 : (10 : Int) ^ Int.toNat 18 ≤ x
        · simp only [wp_ret, wp_stuck, wp_bnd, kb_ap, wp_lift, wo_some, wo_none, wo_ite, wo_map, wp_ite, ks_nx, ks_rt, ks_bk, ks_ct, wp_seq, wp_pk, kpk_v, kpk_ow, wp_rd, krd_v, krd_ow, wp_mv, kmv_v, kmv_ow, wp_cst, wp_use2, k2_ap, wp_op2, wp_use1, k1_ap, wp_op1, wp_useN, kN_ap, wp_opN, rsv_d, rsv_pk, ksv_v, ksv_ow, rsvs_nil, rsvs_cons, kcons_ap, wp_osN, wp_osC, wp_lsN, wp_lsC, wp_fsN, wp_fsC, wp_opd, wp_frz, wp_tupM, wp_lstM, wp_tst, ktst_bl, wp_notB, wp_andB, wp_orB, wp_andV, wp_orV, wp_notV, wp_ifE, wp_drop, wp_retM, wp_retN, fr_v, fr_un, fr_ow, pl_v, pl_un, fr_pl, frO_ap, plO_ap, slot_f, slot_t, wp_put, wp_setM, wp_parM, puts_nil, puts_cons, kt_ap, wt_N, wts_nil, wts_cons, wt_T, wp_setT, wp_tg, wp_appU, kap_ap, isL_ap, kapp_ap, wp_appE, wp_setP, kset_ap, wp_setIx, wp_setQ, wp_useF, kcall_ap, kpb_ap, kpe_ap, wp_callM, kargs_ap, argsOf_nil, argsOf_cons, argOf_d, argOf_pk, karg_v, karg_ow, pks_nil, pks_d, pks_pk, kpks_ow, kpks_v, nodupN_nil, nodupN_one, nodupN_cons, pb_nil, pb_d, pb_dU, pb_pk, kpbk_ap, kr_rt, kr_nx, kre_ap, wp_runB, back_nil, back_v, back_ow, wp_forM, wp_srcV, wp_srcA, kfor_nx, kfor_ct, kfor_bk, kfor_rt, wp_forGo_nil, wb_nil, npO_ap, wb_cons, wp_lcM, klc_ap, wp_lcB, kel_ap, kco_t, kco_f, kco_d, List.getElem?_cons_zero, List.getElem?_cons_succ, List.set_cons_zero, List.set_cons_succ, List.length_cons, List.length_nil, List.length_append, List.replicate_succ, List.replicate_zero, List.cons_append, List.nil_append, if_true, if_false, ite_true, ite_false, Bool.false_eq_true, true_and, and_true, decide_eq_true_eq, Bool.not_true, Bool.not_false, Bool.not_eq_true', decide_eq_false_iff_not, reduceIte, reduceCtorEq, Nat.zero_add, Nat.reduceAdd, Nat.reduceSub, List.contains_nil, List.contains_cons, Bool.and_true, Bool.or_false, Bool.and_self, beq_self_eq_true, Nat.reduceBEq, Nat.reduceEqDiff, Nat.succ_eq_add_one, rst, List.getD_cons_zero, List.getD_cons_succ, isF, lenF, listF, tupleF, o_int, o_inti, o_addl, o_addt, o_mulb, absF, minF, maxF, sumF, seqOf, not_true_eq_false, not_false_eq_true, Bool.or_true, Bool.true_or, Bool.false_or, Bool.true_and, Bool.false_and, Bool.and_false, Option.map_some, Option.map_none, bne_f, bne_t, dec_not, fr_pl, nums_int, List.length_map, o_lt, o_le, o_gt, o_ge, o_add, o_sub, o_mul, o_div, o_mod, o_pow, o_rng1, o_rng2, at_0, at_1, at_2, at_3, at_4, at_5, at_nat, ix_0, ix_1, ix_2, ix_3, idx_l, idx_t, o_eq, o_eqb, small_nil, small_c1, small_c2, small_c3, small_c4, small_c5, small_c6, o_isi, ty_int_non, ty_int_bl, ty_int_int, ty_int_str, ty_int_tup, ty_int_lst, ty_int_dic, ty_int_set, ty_bool_non, ty_bool_bl, ty_bool_int, ty_bool_str, ty_bool_tup, ty_bool_lst, ty_bool_dic, ty_bool_set, ty_str_non, ty_str_bl, ty_str_int, ty_str_str, ty_str_tup, ty_str_lst, ty_str_dic, ty_str_set, ty_tuple_non, ty_tuple_bl, ty_tuple_int, ty_tuple_str, ty_tuple_tup, ty_tuple_lst, ty_tuple_dic, ty_tuple_set, ty_list_non, ty_list_bl, ty_list_int, ty_list_str, ty_list_tup, ty_list_lst, ty_list_dic, ty_list_set, ty_dict_non, ty_dict_bl, ty_dict_int, ty_dict_str, ty_dict_tup, ty_dict_lst, ty_dict_dic, ty_dict_set, ty_set_non, ty_set_bl, ty_set_int, ty_set_str, ty_set_tup, ty_set_lst, ty_set_dic, ty_set_set, h0, h1, hx, h2, h3]
          exact ⟨pw, fin _ (t + 1) c (by omega) (by omega) hc0 hc⟩
        · simp only [wp_ret, wp_stuck, wp_bnd, kb_ap, wp_lift, wo_some, wo_none, wo_ite, wo_map, wp_ite, ks_nx, ks_rt, ks_bk, ks_ct, wp_seq, wp_pk, kpk_v, kpk_ow, wp_rd, krd_v, krd_ow, wp_mv, kmv_v, kmv_ow, wp_cst, wp_use2, k2_ap, wp_op2, wp_use1, k1_ap, wp_op1, wp_useN, kN_ap, wp_opN, rsv_d, rsv_pk, ksv_v, ksv_ow, rsvs_nil, rsvs_cons, kcons_ap, wp_osN, wp_osC, wp_lsN, wp_lsC, wp_fsN, wp_fsC, wp_opd, wp_frz, wp_tupM, wp_lstM, wp_tst, ktst_bl, wp_notB, wp_andB, wp_orB, wp_andV, wp_orV, wp_notV, wp_ifE, wp_drop, wp_retM, wp_retN, fr_v, fr_un, fr_ow, pl_v, pl_un, fr_pl, frO_ap, plO_ap, slot_f, slot_t, wp_put, wp_setM, wp_parM, puts_nil, puts_cons, kt_ap, wt_N, wts_nil, wts_cons, wt_T, wp_setT, wp_tg, wp_appU, kap_ap, isL_ap, kapp_ap, wp_appE, wp_setP, kset_ap, wp_setIx, wp_setQ, wp_useF, kcall_ap, kpb_ap, kpe_ap, wp_callM, kargs_ap, argsOf_nil, argsOf_cons, argOf_d, argOf_pk, karg_v, karg_ow, pks_nil, pks_d, pks_pk, kpks_ow, kpks_v, nodupN_nil, nodupN_one, nodupN_cons, pb_nil, pb_d, pb_dU, pb_pk, kpbk_ap, kr_rt, kr_nx, kre_ap, wp_runB, back_nil, back_v, back_ow, wp_forM, wp_srcV, wp_srcA, kfor_nx, kfor_ct, kfor_bk, kfor_rt, wp_forGo_nil, wb_nil, npO_ap, wb_cons, wp_lcM, klc_ap, wp_lcB, kel_ap, kco_t, kco_f, kco_d, List.getElem?_cons_zero, List.getElem?_cons_succ, List.set_cons_zero, List.set_cons_succ, List.length_cons, List.length_nil, List.length_append, List.replicate_succ, List.replicate_zero, List.cons_append, List.nil_append, if_true, if_false, ite_true, ite_false, Bool.false_eq_true, true_and, and_true, decide_eq_true_eq, Bool.not_true, Bool.not_false, Bool.not_eq_true', decide_eq_false_iff_not, reduceIte, reduceCtorEq, Nat.zero_add, Nat.reduceAdd, Nat.reduceSub, List.contains_nil, List.contains_cons, Bool.and_true, Bool.or_false, Bool.and_self, beq_self_eq_true, Nat.reduceBEq, Nat.reduceEqDiff, Nat.succ_eq_add_one, rst, List.getD_cons_zero, List.getD_cons_succ, isF, lenF, listF, tupleF, o_int, o_inti, o_addl, o_addt, o_mulb, absF, minF, maxF, sumF, seqOf, not_true_eq_false, not_false_eq_true, Bool.or_true, Bool.true_or, Bool.false_or, Bool.true_and, Bool.false_and, Bool.and_false, Option.map_some, Option.map_none, bne_f, bne_t, dec_not, fr_pl, nums_int, List.length_map, o_lt, o_le, o_gt, o_ge, o_add, o_sub, o_mul, o_div, o_mod, o_pow, o_rng1, o_rng2, at_0, at_1, at_2, at_3, at_4, at_5, at_nat, ix_0, ix_1, ix_2, ix_3, idx_l, idx_t, o_eq, o_eqb, small_nil, small_c1, small_c2, small_c3, small_c4, small_c5, small_c6, o_isi, ty_int_non, ty_int_bl, ty_int_int, ty_int_str, ty_int_tup, ty_int_lst, ty_int_dic, ty_int_set, ty_bool_non, ty_bool_bl, ty_bool_int, ty_bool_str, ty_bool_tup, ty_bool_lst, ty_bool_dic, ty_bool_set, ty_str_non, ty_str_bl, ty_str_int, ty_str_str, ty_str_tup, ty_str_lst, ty_str_dic, ty_str_set, ty_tuple_non, ty_tuple_bl, ty_tuple_int, ty_tuple_str, ty_tuple_tup, ty_tuple_lst, ty_tuple_dic, ty_tuple_set, ty_list_non, ty_list_bl, ty_list_int, ty_list_str, ty_list_tup, ty_list_lst, ty_list_dic, ty_list_set, ty_dict_non, ty_dict_bl, ty_dict_int, ty_dict_str, ty_dict_tup, ty_dict_lst, ty_dict_dic, ty_dict_set, ty_set_non, ty_set_bl, ty_set_int, ty_set_str, ty_set_tup, ty_set_lst, ty_set_dic, ty_set_set, h0, h1, hx, h2, h3]
          exact ⟨pw, mix _ (by omega)⟩
    · have h2 : ¬ (0 : Int) < 0 := by omega
      have h3 : ¬ (10 : Int) ^ Int.toNat 18 ≤ 0 := by decide
      simp only [wp_ret, wp_stuck, wp_bnd, kb_ap, wp_lift, wo_some, wo_none, wo_ite, wo_map, wp_ite, ks_nx, ks_rt, ks_bk, ks_ct, wp_seq, wp_pk, kpk_v, kpk_ow, wp_rd, krd_v, krd_ow, wp_mv, kmv_v, kmv_ow, wp_cst, wp_use2, k2_ap, wp_op2, wp_use1, k1_ap, wp_op1, wp_useN, kN_ap, wp_opN, rsv_d, rsv_pk, ksv_v, ksv_ow, rsvs_nil, rsvs_cons, kcons_ap, wp_osN, wp_osC, wp_lsN, wp_lsC, wp_fsN, wp_fsC, wp_opd, wp_frz, wp_tupM, wp_lstM, wp_tst, ktst_bl, wp_notB, wp_andB, wp_orB, wp_andV, wp_orV, wp_notV, wp_ifE, wp_drop, wp_retM, wp_retN, fr_v, fr_un, fr_ow, pl_v, pl_un, fr_pl, frO_ap, plO_ap, slot_f, slot_t, wp_put, wp_setM, wp_parM, puts_nil, puts_cons, kt_ap, wt_N, wts_nil, wts_cons, wt_T, wp_setT, wp_tg, wp_appU, kap_ap, isL_ap, kapp_ap, wp_appE, wp_setP, kset_ap, wp_setIx, wp_setQ, wp_useF, kcall_ap, kpb_ap, kpe_ap, wp_callM, kargs_ap, argsOf_nil, argsOf_cons, argOf_d, argOf_pk, karg_v, karg_ow, pks_nil, pks_d, pks_pk, kpks_ow, kpks_v, nodupN_nil, nodupN_one, nodupN_cons, pb_nil, pb_d, pb_dU, pb_pk, kpbk_ap, kr_rt, kr_nx, kre_ap, wp_runB, back_nil, back_v, back_ow, wp_forM, wp_srcV, wp_srcA, kfor_nx, kfor_ct, kfor_bk, kfor_rt, wp_forGo_nil, wb_nil, npO_ap, wb_cons, wp_lcM, klc_ap, wp_lcB, kel_ap, kco_t, kco_f, kco_d, List.getElem?_cons_zero, List.getElem?_cons_succ, List.set_cons_zero, List.set_cons_succ, List.length_cons, List.length_nil, List.length_append, List.replicate_succ, List.replicate_zero, List.cons_append, List.nil_append, if_true, if_false, ite_true, ite_false, Bool.false_eq_true, true_and, and_true, decide_eq_true_eq, Bool.not_true, Bool.not_false, Bool.not_eq_true', decide_eq_false_iff_not, reduceIte, reduceCtorEq, Nat.zero_add, Nat.reduceAdd, Nat.reduceSub, List.contains_nil, List.contains_cons, Bool.and_true, Bool.or_false, Bool.and_self, beq_self_eq_true, Nat.reduceBEq, Nat.reduceEqDiff, Nat.succ_eq_add_one, rst, List.getD_cons_zero, List.getD_cons_succ, isF, lenF, listF, tupleF, o_int, o_inti, o_addl, o_addt, o_mulb, absF, minF, maxF, sumF, seqOf, not_true_eq_false, not_false_eq_true, Bool.or_true, Bool.true_or, Bool.false_or, Bool.true_and, Bool.false_and, Bool.and_false, Option.map_some, Option.map_none, bne_f, bne_t, dec_not, fr_pl, nums_int, List.length_map, o_lt, o_le, o_gt, o_ge, o_add, o_sub, o_mul, o_div, o_mod, o_pow, o_rng1, o_rng2, at_0, at_1, at_2, at_3, at_4, at_5, at_nat, ix_0, ix_1, ix_2, ix_3, idx_l, idx_t, o_eq, o_eqb, small_nil, small_c1, small_c2, small_c3, small_c4, small_c5, small_c6, o_isi, ty_int_non, ty_int_bl, ty_int_int, ty_int_str, ty_int_tup, ty_int_lst, ty_int_dic, ty_int_set, ty_bool_non, ty_bool_bl, ty_bool_int, ty_bool_str, ty_bool_tup, ty_bool_lst, ty_bool_dic, ty_bool_set, ty_str_non, ty_str_bl, ty_str_int, ty_str_str, ty_str_tup, ty_str_lst, ty_str_dic, ty_str_set, ty_tuple_non, ty_tuple_bl, ty_tuple_int, ty_tuple_str, ty_tuple_tup, ty_tuple_lst, ty_tuple_dic, ty_tuple_set, ty_list_non, ty_list_bl, ty_list_int, ty_list_str, ty_list_tup, ty_list_lst, ty_list_dic, ty_list_set, ty_dict_non, ty_dict_bl, ty_dict_int, ty_dict_str, ty_dict_tup, ty_dict_lst, ty_dict_dic, ty_dict_set, ty_set_non, ty_set_bl, ty_set_int, ty_set_str, ty_set_tup, ty_set_lst, ty_set_dic, ty_set_set, h0, h1, h2, h3]
      exact ⟨pw, mix _ (by omega)⟩
  · simp only [wp_ret, wp_stuck, wp_bnd, kb_ap, wp_lift, wo_some, wo_none, wo_ite, wo_map, wp_ite, ks_nx, ks_rt, ks_bk, ks_ct, wp_seq, wp_pk, kpk_v, kpk_ow, wp_rd, krd_v, krd_ow, wp_mv, kmv_v, kmv_ow, wp_cst, wp_use2, k2_ap, wp_op2, wp_use1, k1_ap, wp_op1, wp_useN, kN_ap, wp_opN, rsv_d, rsv_pk, ksv_v, ksv_ow, rsvs_nil, rsvs_cons, kcons_ap, wp_osN, wp_osC, wp_lsN, wp_lsC, wp_fsN, wp_fsC, wp_opd, wp_frz, wp_tupM, wp_lstM, wp_tst, ktst_bl, wp_notB, wp_andB, wp_orB, wp_andV, wp_orV, wp_notV, wp_ifE, wp_drop, wp_retM, wp_retN, fr_v, fr_un, fr_ow, pl_v, pl_un, fr_pl, frO_ap, plO_ap, slot_f, slot_t, wp_put, wp_setM, wp_parM, puts_nil, puts_cons, kt_ap, wt_N, wts_nil, wts_cons, wt_T, wp_setT, wp_tg, wp_appU, kap_ap, isL_ap, kapp_ap, wp_appE, wp_setP, kset_ap, wp_setIx, wp_setQ, wp_useF, kcall_ap, kpb_ap, kpe_ap, wp_callM, kargs_ap, argsOf_nil, argsOf_cons, argOf_d, argOf_pk, karg_v, karg_ow, pks_nil, pks_d, pks_pk, kpks_ow, kpks_v, nodupN_nil, nodupN_one, nodupN_cons, pb_nil, pb_d, pb_dU, pb_pk, kpbk_ap, kr_rt, kr_nx, kre_ap, wp_runB, back_nil, back_v, back_ow, wp_forM, wp_srcV, wp_srcA, kfor_nx, kfor_ct, kfor_bk, kfor_rt, wp_forGo_nil, wb_nil, npO_ap, wb_cons, wp_lcM, klc_ap, wp_lcB, kel_ap, kco_t, kco_f, kco_d, List.getElem?_cons_zero, List.getElem?_cons_succ, List.set_cons_zero, List.set_cons_succ, List.length_cons, List.length_nil, List.length_append, List.replicate_succ, List.replicate_zero, List.cons_append, List.nil_append, if_true, if_false, ite_true, ite_false, Bool.false_eq_true, true_and, and_true, decide_eq_true_eq, Bool.not_true, Bool.not_false, Bool.not_eq_true', decide_eq_false_iff_not, reduceIte, reduceCtorEq, Nat.zero_add, Nat.reduceAdd, Nat.reduceSub, List.contains_nil, List.contains_cons, Bool.and_true, Bool.or_false, Bool.and_self, beq_self_eq_true, Nat.reduceBEq, Nat.reduceEqDiff, Nat.succ_eq_add_one, rst, List.getD_cons_zero, List.getD_cons_succ, isF, lenF, listF, tupleF, o_int, o_inti, o_addl, o_addt, o_mulb, absF, minF, maxF, sumF, seqOf, not_true_eq_false, not_false_eq_true, Bool.or_true, Bool.true_or, Bool.false_or, Bool.true_and, Bool.false_and, Bool.and_false, Option.map_some, Option.map_none, bne_f, bne_t, dec_not, fr_pl, nums_int, List.length_map, o_lt, o_le, o_gt, o_ge, o_add, o_sub, o_mul, o_div, o_mod, o_pow, o_rng1, o_rng2, at_0, at_1, at_2, at_3, at_4, at_5, at_nat, ix_0, ix_1, ix_2, ix_3, idx_l, idx_t, o_eq, o_eqb, small_nil, small_c1, small_c2, small_c3, small_c4, small_c5, small_c6, o_isi, ty_int_non, ty_int_bl, ty_int_int, ty_int_str, ty_int_tup, ty_int_lst, ty_int_dic, ty_int_set, ty_bool_non, ty_bool_bl, ty_bool_int, ty_bool_str, ty_bool_tup, ty_bool_lst, ty_bool_dic, ty_bool_set, ty_str_non, ty_str_bl, ty_str_int, ty_str_str, ty_str_tup, ty_str_lst, ty_str_dic, ty_str_set, ty_tuple_non, ty_tuple_bl, ty_tuple_int, ty_tuple_str, ty_tuple_tup, ty_tuple_lst, ty_tuple_dic, ty_tuple_set, ty_list_non, ty_list_bl, ty_list_int, ty_list_str, ty_list_tup, ty_list_lst, ty_list_dic, ty_list_set, ty_dict_non, ty_dict_bl, ty_dict_int, ty_dict_str, ty_dict_tup, ty_dict_lst, ty_dict_dic, ty_dict_set, ty_set_non, ty_set_bl, ty_set_int, ty_set_str, ty_set_tup, ty_set_lst, ty_set_dic, ty_set_set, h0]
    exact fin a t c ha (by omega) hc0 hc
/-! ### the same value -/
theorem zip_self {ds : List D} {d : D} (h : d ∈ List.zipWith pairF ds ds) : ∃ x, x ∈ ds ∧ d = .tup [x, x] := by
  induction ds with
  | nil => simp at h
  | cons a ds ih =>
    rw [List.zipWith_cons_cons] at h
    rcases List.mem_cons.mp h with h | h
    · exact ⟨a, List.mem_cons_self, h⟩
    · obtain ⟨x, hx, e⟩ := ih h
      exact ⟨x, List.mem_cons_of_mem _ hx, e⟩
mutual
theorem eqv_self : ∀ (n : Nat) (d : D), D.plain n d = true → D.eqv d d = true
  | _, .non, _ => by simp [D.eqv]
  | _, .bl b, _ => by simp [D.eqv]
  | _, .int i, _ => by simp [D.eqv]
  | _, .str x, _ => by simp [D.eqv]
  | 0, .tup ds, h => by simp [D.plain] at h
  | n + 1, .tup ds, h => by
    simp only [D.plain] at h
    simp only [D.eqv]
    exact eqvs_self n ds h
  | 0, .lst ds, h => by simp [D.plain] at h
  | n + 1, .lst ds, h => by
    simp only [D.plain] at h
    simp only [D.eqv]
    exact eqvs_self n ds h
  | _, .dic _ _, h => by simp [D.plain] at h
  | _, .set _, h => by simp [D.plain] at h
theorem eqvs_self : ∀ (n : Nat) (ds : List D), D.plains n ds = true → D.eqvs ds ds = true
  | _, [], _ => by simp [D.eqvs]
  | n, d :: ds, h => by
    simp only [D.plains, Bool.and_eq_true] at h
    simp only [D.eqvs, Bool.and_eq_true]
    exact ⟨eqv_self n d h.1, eqvs_self n ds h.2⟩
end
mutual
theorem plain_mono : ∀ (n m : Nat) (d : D), D.plain n d = true → n ≤ m → D.plain m d = true
  | _, _, .non, _, _ => by simp [D.plain]
  | _, _, .bl b, _, _ => by simp [D.plain]
  | _, _, .int i, _, _ => by simp [D.plain]
  | _, _, .str x, h, _ => by simpa [D.plain] using h
  | 0, _, .tup ds, h, _ => by simp [D.plain] at h
  | n + 1, 0, .tup ds, h, l => by omega
  | n + 1, m + 1, .tup ds, h, l => by
    simp only [D.plain] at h ⊢
    exact plains_mono n m ds h (by omega)
  | 0, _, .lst ds, h, _ => by simp [D.plain] at h
  | n + 1, 0, .lst ds, h, l => by omega
  | n + 1, m + 1, .lst ds, h, l => by
    simp only [D.plain] at h ⊢
    exact plains_mono n m ds h (by omega)
  | _, _, .dic _ _, h, _ => by simp [D.plain] at h
  | _, _, .set _, h, _ => by simp [D.plain] at h
theorem plains_mono : ∀ (n m : Nat) (ds : List D), D.plains n ds = true → n ≤ m → D.plains m ds = true
  | _, _, [], _, _ => by simp [D.plains]
  | n, m, d :: ds, h, l => by
    simp only [D.plains, Bool.and_eq_true] at h ⊢
    exact ⟨plain_mono n m d h.1 l, plains_mono n m ds h.2 l⟩
end
theorem plains_mem {n : Nat} {ds : List D} {d : D} (h : D.plains n ds = true) (m : d ∈ ds) : D.plain n d = true := by
  induction ds with
  | nil => cases m
  | cons a ds ih =>
    simp only [D.plains, Bool.and_eq_true] at h
    rcases List.mem_cons.mp m with e | m
    · rw [e]; exact h.1
    · exact ih h.2 m
theorem plains_of {n : Nat} {ds : List D} (h : ∀ d, d ∈ ds → D.plain n d = true) : D.plains n ds = true := by
  induction ds with
  | nil => rfl
  | cons a ds ih =>
    simp only [D.plains, Bool.and_eq_true]
    exact ⟨h a List.mem_cons_self, ih fun d m => h d (List.mem_cons_of_mem _ m)⟩
theorem eqF_self {neg : Bool} {n : Nat} {d : D} (h : D.plain n d = true) (l : n ≤ deepest) : eqF neg d d = some (.bl (!neg), false) := by
  unfold eqF
  rw [plain_mono n deepest d h l, eqv_self n d h]
  cases neg <;> rfl
theorem zip_l {a b : List D} {P : List D → Prop} : wo (zipF [.lst a, .lst b]) P = P (List.zipWith pairF a b) := (rfl)
theorem zip_t {a b : List D} {P : List D → Prop} : wo (zipF [.tup a, .tup b]) P = P (List.zipWith pairF a b) := (rfl)
theorem wp_same : ∀ (n : Nat) (d : D) (Q : D × Bool → SS → Prop) (E : Ex → SS → Prop), D.plain n d = true → n ≤ 150 → Q (.bl true, false) [.v d, .v d] → wp (F__law_same (n + 1)) [.v d, .v d] Q E := by
  intro n
  induction n with
  | zero =>
    intro d Q E hd hn q
    unfold F__law_same b__law_same
    cases d with
    | tup ds => simp [D.plain] at hd
    | lst ds => simp [D.plain] at hd
    | dic a b => simp [D.plain] at hd
    | set a => simp [D.plain] at hd
    | non => simp only [wp_ret, wp_stuck, wp_bnd, kb_ap, wp_lift, wo_some, wo_none, wo_ite, wo_map, wp_ite, ks_nx, ks_rt, ks_bk, ks_ct, wp_seq, wp_pk, kpk_v, kpk_ow, wp_rd, krd_v, krd_ow, wp_mv, kmv_v, kmv_ow, wp_cst, wp_use2, k2_ap, wp_op2, wp_use1, k1_ap, wp_op1, wp_useN, kN_ap, wp_opN, rsv_d, rsv_pk, ksv_v, ksv_ow, rsvs_nil, rsvs_cons, kcons_ap, wp_osN, wp_osC, wp_lsN, wp_lsC, wp_fsN, wp_fsC, wp_opd, wp_frz, wp_tupM, wp_lstM, wp_tst, ktst_bl, wp_notB, wp_andB, wp_orB, wp_andV, wp_orV, wp_notV, wp_ifE, wp_drop, wp_retM, wp_retN, fr_v, fr_un, fr_ow, pl_v, pl_un, fr_pl, frO_ap, plO_ap, slot_f, slot_t, wp_put, wp_setM, wp_parM, puts_nil, puts_cons, kt_ap, wt_N, wts_nil, wts_cons, wt_T, wp_setT, wp_tg, wp_appU, kap_ap, isL_ap, kapp_ap, wp_appE, wp_setP, kset_ap, wp_setIx, wp_setQ, wp_useF, kcall_ap, kpb_ap, kpe_ap, wp_callM, kargs_ap, argsOf_nil, argsOf_cons, argOf_d, argOf_pk, karg_v, karg_ow, pks_nil, pks_d, pks_pk, kpks_ow, kpks_v, nodupN_nil, nodupN_one, nodupN_cons, pb_nil, pb_d, pb_dU, pb_pk, kpbk_ap, kr_rt, kr_nx, kre_ap, wp_runB, back_nil, back_v, back_ow, wp_forM, wp_srcV, wp_srcA, kfor_nx, kfor_ct, kfor_bk, kfor_rt, wp_forGo_nil, wb_nil, npO_ap, wb_cons, wp_lcM, klc_ap, wp_lcB, kel_ap, kco_t, kco_f, kco_d, List.getElem?_cons_zero, List.getElem?_cons_succ, List.set_cons_zero, List.set_cons_succ, List.length_cons, List.length_nil, List.length_append, List.replicate_succ, List.replicate_zero, List.cons_append, List.nil_append, if_true, if_false, ite_true, ite_false, Bool.false_eq_true, true_and, and_true, decide_eq_true_eq, Bool.not_true, Bool.not_false, Bool.not_eq_true', decide_eq_false_iff_not, reduceIte, reduceCtorEq, Nat.zero_add, Nat.reduceAdd, Nat.reduceSub, List.contains_nil, List.contains_cons, Bool.and_true, Bool.or_false, Bool.and_self, beq_self_eq_true, Nat.reduceBEq, Nat.reduceEqDiff, Nat.succ_eq_add_one, rst, List.getD_cons_zero, List.getD_cons_succ, isF, lenF, listF, tupleF, o_int, o_inti, o_addl, o_addt, o_mulb, absF, minF, maxF, sumF, seqOf, not_true_eq_false, not_false_eq_true, Bool.or_true, Bool.true_or, Bool.false_or, Bool.true_and, Bool.false_and, Bool.and_false, Option.map_some, Option.map_none, bne_f, bne_t, dec_not, fr_pl, nums_int, List.length_map, o_lt, o_le, o_gt, o_ge, o_add, o_sub, o_mul, o_div, o_mod, o_pow, o_rng1, o_rng2, at_0, at_1, at_2, at_3, at_4, at_5, at_nat, ix_0, ix_1, ix_2, ix_3, idx_l, idx_t, o_eq, o_eqb, small_nil, small_c1, small_c2, small_c3, small_c4, small_c5, small_c6, o_isi, ty_int_non, ty_int_bl, ty_int_int, ty_int_str, ty_int_tup, ty_int_lst, ty_int_dic, ty_int_set, ty_bool_non, ty_bool_bl, ty_bool_int, ty_bool_str, ty_bool_tup, ty_bool_lst, ty_bool_dic, ty_bool_set, ty_str_non, ty_str_bl, ty_str_int, ty_str_str, ty_str_tup, ty_str_lst, ty_str_dic, ty_str_set, ty_tuple_non, ty_tuple_bl, ty_tuple_int, ty_tuple_str, ty_tuple_tup, ty_tuple_lst, ty_tuple_dic, ty_tuple_set, ty_list_non, ty_list_bl, ty_list_int, ty_list_str, ty_list_tup, ty_list_lst, ty_list_dic, ty_list_set, ty_dict_non, ty_dict_bl, ty_dict_int, ty_dict_str, ty_dict_tup, ty_dict_lst, ty_dict_dic, ty_dict_set, ty_set_non, ty_set_bl, ty_set_int, ty_set_str, ty_set_tup, ty_set_lst, ty_set_dic, ty_set_set, eqF_self (d := .non) hd (by decide)]; exact q
    | bl b => simp only [wp_ret, wp_stuck, wp_bnd, kb_ap, wp_lift, wo_some, wo_none, wo_ite, wo_map, wp_ite, ks_nx, ks_rt, ks_bk, ks_ct, wp_seq, wp_pk, kpk_v, kpk_ow, wp_rd, krd_v, krd_ow, wp_mv, kmv_v, kmv_ow, wp_cst, wp_use2, k2_ap, wp_op2, wp_use1, k1_ap, wp_op1, wp_useN, kN_ap, wp_opN, rsv_d, rsv_pk, ksv_v, ksv_ow, rsvs_nil, rsvs_cons, kcons_ap, wp_osN, wp_osC, wp_lsN, wp_lsC, wp_fsN, wp_fsC, wp_opd, wp_frz, wp_tupM, wp_lstM, wp_tst, ktst_bl, wp_notB, wp_andB, wp_orB, wp_andV, wp_orV, wp_notV, wp_ifE, wp_drop, wp_retM, wp_retN, fr_v, fr_un, fr_ow, pl_v, pl_un, fr_pl, frO_ap, plO_ap, slot_f, slot_t, wp_put, wp_setM, wp_parM, puts_nil, puts_cons, kt_ap, wt_N, wts_nil, wts_cons, wt_T, wp_setT, wp_tg, wp_appU, kap_ap, isL_ap, kapp_ap, wp_appE, wp_setP, kset_ap, wp_setIx, wp_setQ, wp_useF, kcall_ap, kpb_ap, kpe_ap, wp_callM, kargs_ap, argsOf_nil, argsOf_cons, argOf_d, argOf_pk, karg_v, karg_ow, pks_nil, pks_d, pks_pk, kpks_ow, kpks_v, nodupN_nil, nodupN_one, nodupN_cons, pb_nil, pb_d, pb_dU, pb_pk, kpbk_ap, kr_rt, kr_nx, kre_ap, wp_runB, back_nil, back_v, back_ow, wp_forM, wp_srcV, wp_srcA, kfor_nx, kfor_ct, kfor_bk, kfor_rt, wp_forGo_nil, wb_nil, npO_ap, wb_cons, wp_lcM, klc_ap, wp_lcB, kel_ap, kco_t, kco_f, kco_d, List.getElem?_cons_zero, List.getElem?_cons_succ, List.set_cons_zero, List.set_cons_succ, List.length_cons, List.length_nil, List.length_append, List.replicate_succ, List.replicate_zero, List.cons_append, List.nil_append, if_true, if_false, ite_true, ite_false, Bool.false_eq_true, true_and, and_true, decide_eq_true_eq, Bool.not_true, Bool.not_false, Bool.not_eq_true', decide_eq_false_iff_not, reduceIte, reduceCtorEq, Nat.zero_add, Nat.reduceAdd, Nat.reduceSub, List.contains_nil, List.contains_cons, Bool.and_true, Bool.or_false, Bool.and_self, beq_self_eq_true, Nat.reduceBEq, Nat.reduceEqDiff, Nat.succ_eq_add_one, rst, List.getD_cons_zero, List.getD_cons_succ, isF, lenF, listF, tupleF, o_int, o_inti, o_addl, o_addt, o_mulb, absF, minF, maxF, sumF, seqOf, not_true_eq_false, not_false_eq_true, Bool.or_true, Bool.true_or, Bool.false_or, Bool.true_and, Bool.false_and, Bool.and_false, Option.map_some, Option.map_none, bne_f, bne_t, dec_not, fr_pl, nums_int, List.length_map, o_lt, o_le, o_gt, o_ge, o_add, o_sub, o_mul, o_div, o_mod, o_pow, o_rng1, o_rng2, at_0, at_1, at_2, at_3, at_4, at_5, at_nat, ix_0, ix_1, ix_2, ix_3, idx_l, idx_t, o_eq, o_eqb, small_nil, small_c1, small_c2, small_c3, small_c4, small_c5, small_c6, o_isi, ty_int_non, ty_int_bl, ty_int_int, ty_int_str, ty_int_tup, ty_int_lst, ty_int_dic, ty_int_set, ty_bool_non, ty_bool_bl, ty_bool_int, ty_bool_str, ty_bool_tup, ty_bool_lst, ty_bool_dic, ty_bool_set, ty_str_non, ty_str_bl, ty_str_int, ty_str_str, ty_str_tup, ty_str_lst, ty_str_dic, ty_str_set, ty_tuple_non, ty_tuple_bl, ty_tuple_int, ty_tuple_str, ty_tuple_tup, ty_tuple_lst, ty_tuple_dic, ty_tuple_set, ty_list_non, ty_list_bl, ty_list_int, ty_list_str, ty_list_tup, ty_list_lst, ty_list_dic, ty_list_set, ty_dict_non, ty_dict_bl, ty_dict_int, ty_dict_str, ty_dict_tup, ty_dict_lst, ty_dict_dic, ty_dict_set, ty_set_non, ty_set_bl, ty_set_int, ty_set_str, ty_set_tup, ty_set_lst, ty_set_dic, ty_set_set, eqF_self (d := .bl b) hd (by decide)]; exact q
    | int i => simp only [wp_ret, wp_stuck, wp_bnd, kb_ap, wp_lift, wo_some, wo_none, wo_ite, wo_map, wp_ite, ks_nx, ks_rt, ks_bk, ks_ct, wp_seq, wp_pk, kpk_v, kpk_ow, wp_rd, krd_v, krd_ow, wp_mv, kmv_v, kmv_ow, wp_cst, wp_use2, k2_ap, wp_op2, wp_use1, k1_ap, wp_op1, wp_useN, kN_ap, wp_opN, rsv_d, rsv_pk, ksv_v, ksv_ow, rsvs_nil, rsvs_cons, kcons_ap, wp_osN, wp_osC, wp_lsN, wp_lsC, wp_fsN, wp_fsC, wp_opd, wp_frz, wp_tupM, wp_lstM, wp_tst, ktst_bl, wp_notB, wp_andB, wp_orB, wp_andV, wp_orV, wp_notV, wp_ifE, wp_drop, wp_retM, wp_retN, fr_v, fr_un, fr_ow, pl_v, pl_un, fr_pl, frO_ap, plO_ap, slot_f, slot_t, wp_put, wp_setM, wp_parM, puts_nil, puts_cons, kt_ap, wt_N, wts_nil, wts_cons, wt_T, wp_setT, wp_tg, wp_appU, kap_ap, isL_ap, kapp_ap, wp_appE, wp_setP, kset_ap, wp_setIx, wp_setQ, wp_useF, kcall_ap, kpb_ap, kpe_ap, wp_callM, kargs_ap, argsOf_nil, argsOf_cons, argOf_d, argOf_pk, karg_v, karg_ow, pks_nil, pks_d, pks_pk, kpks_ow, kpks_v, nodupN_nil, nodupN_one, nodupN_cons, pb_nil, pb_d, pb_dU, pb_pk, kpbk_ap, kr_rt, kr_nx, kre_ap, wp_runB, back_nil, back_v, back_ow, wp_forM, wp_srcV, wp_srcA, kfor_nx, kfor_ct, kfor_bk, kfor_rt, wp_forGo_nil, wb_nil, npO_ap, wb_cons, wp_lcM, klc_ap, wp_lcB, kel_ap, kco_t, kco_f, kco_d, List.getElem?_cons_zero, List.getElem?_cons_succ, List.set_cons_zero, List.set_cons_succ, List.length_cons, List.length_nil, List.length_append, List.replicate_succ, List.replicate_zero, List.cons_append, List.nil_append, if_true, if_false, ite_true, ite_false, Bool.false_eq_true, true_and, and_true, decide_eq_true_eq, Bool.not_true, Bool.not_false, Bool.not_eq_true', decide_eq_false_iff_not, reduceIte, reduceCtorEq, Nat.zero_add, Nat.reduceAdd, Nat.reduceSub, List.contains_nil, List.contains_cons, Bool.and_true, Bool.or_false, Bool.and_self, beq_self_eq_true, Nat.reduceBEq, Nat.reduceEqDiff, Nat.succ_eq_add_one, rst, List.getD_cons_zero, List.getD_cons_succ, isF, lenF, listF, tupleF, o_int, o_inti, o_addl, o_addt, o_mulb, absF, minF, maxF, sumF, seqOf, not_true_eq_false, not_false_eq_true, Bool.or_true, Bool.true_or, Bool.false_or, Bool.true_and, Bool.false_and, Bool.and_false, Option.map_some, Option.map_none, bne_f, bne_t, dec_not, fr_pl, nums_int, List.length_map, o_lt, o_le, o_gt, o_ge, o_add, o_sub, o_mul, o_div, o_mod, o_pow, o_rng1, o_rng2, at_0, at_1, at_2, at_3, at_4, at_5, at_nat, ix_0, ix_1, ix_2, ix_3, idx_l, idx_t, o_eq, o_eqb, small_nil, small_c1, small_c2, small_c3, small_c4, small_c5, small_c6, o_isi, ty_int_non, ty_int_bl, ty_int_int, ty_int_str, ty_int_tup, ty_int_lst, ty_int_dic, ty_int_set, ty_bool_non, ty_bool_bl, ty_bool_int, ty_bool_str, ty_bool_tup, ty_bool_lst, ty_bool_dic, ty_bool_set, ty_str_non, ty_str_bl, ty_str_int, ty_str_str, ty_str_tup, ty_str_lst, ty_str_dic, ty_str_set, ty_tuple_non, ty_tuple_bl, ty_tuple_int, ty_tuple_str, ty_tuple_tup, ty_tuple_lst, ty_tuple_dic, ty_tuple_set, ty_list_non, ty_list_bl, ty_list_int, ty_list_str, ty_list_tup, ty_list_lst, ty_list_dic, ty_list_set, ty_dict_non, ty_dict_bl, ty_dict_int, ty_dict_str, ty_dict_tup, ty_dict_lst, ty_dict_dic, ty_dict_set, ty_set_non, ty_set_bl, ty_set_int, ty_set_str, ty_set_tup, ty_set_lst, ty_set_dic, ty_set_set, eqF_self (d := .int i) hd (by decide)]; exact q
    | str x => simp only [wp_ret, wp_stuck, wp_bnd, kb_ap, wp_lift, wo_some, wo_none, wo_ite, wo_map, wp_ite, ks_nx, ks_rt, ks_bk, ks_ct, wp_seq, wp_pk, kpk_v, kpk_ow, wp_rd, krd_v, krd_ow, wp_mv, kmv_v, kmv_ow, wp_cst, wp_use2, k2_ap, wp_op2, wp_use1, k1_ap, wp_op1, wp_useN, kN_ap, wp_opN, rsv_d, rsv_pk, ksv_v, ksv_ow, rsvs_nil, rsvs_cons, kcons_ap, wp_osN, wp_osC, wp_lsN, wp_lsC, wp_fsN, wp_fsC, wp_opd, wp_frz, wp_tupM, wp_lstM, wp_tst, ktst_bl, wp_notB, wp_andB, wp_orB, wp_andV, wp_orV, wp_notV, wp_ifE, wp_drop, wp_retM, wp_retN, fr_v, fr_un, fr_ow, pl_v, pl_un, fr_pl, frO_ap, plO_ap, slot_f, slot_t, wp_put, wp_setM, wp_parM, puts_nil, puts_cons, kt_ap, wt_N, wts_nil, wts_cons, wt_T, wp_setT, wp_tg, wp_appU, kap_ap, isL_ap, kapp_ap, wp_appE, wp_setP, kset_ap, wp_setIx, wp_setQ, wp_useF, kcall_ap, kpb_ap, kpe_ap, wp_callM, kargs_ap, argsOf_nil, argsOf_cons, argOf_d, argOf_pk, karg_v, karg_ow, pks_nil, pks_d, pks_pk, kpks_ow, kpks_v, nodupN_nil, nodupN_one, nodupN_cons, pb_nil, pb_d, pb_dU, pb_pk, kpbk_ap, kr_rt, kr_nx, kre_ap, wp_runB, back_nil, back_v, back_ow, wp_forM, wp_srcV, wp_srcA, kfor_nx, kfor_ct, kfor_bk, kfor_rt, wp_forGo_nil, wb_nil, npO_ap, wb_cons, wp_lcM, klc_ap, wp_lcB, kel_ap, kco_t, kco_f, kco_d, List.getElem?_cons_zero, List.getElem?_cons_succ, List.set_cons_zero, List.set_cons_succ, List.length_cons, List.length_nil, List.length_append, List.replicate_succ, List.replicate_zero, List.cons_append, List.nil_append, if_true, if_false, ite_true, ite_false, Bool.false_eq_true, true_and, and_true, decide_eq_true_eq, Bool.not_true, Bool.not_false, Bool.not_eq_true', decide_eq_false_iff_not, reduceIte, reduceCtorEq, Nat.zero_add, Nat.reduceAdd, Nat.reduceSub, List.contains_nil, List.contains_cons, Bool.and_true, Bool.or_false, Bool.and_self, beq_self_eq_true, Nat.reduceBEq, Nat.reduceEqDiff, Nat.succ_eq_add_one, rst, List.getD_cons_zero, List.getD_cons_succ, isF, lenF, listF, tupleF, o_int, o_inti, o_addl, o_addt, o_mulb, absF, minF, maxF, sumF, seqOf, not_true_eq_false, not_false_eq_true, Bool.or_true, Bool.true_or, Bool.false_or, Bool.true_and, Bool.false_and, Bool.and_false, Option.map_some, Option.map_none, bne_f, bne_t, dec_not, fr_pl, nums_int, List.length_map, o_lt, o_le, o_gt, o_ge, o_add, o_sub, o_mul, o_div, o_mod, o_pow, o_rng1, o_rng2, at_0, at_1, at_2, at_3, at_4, at_5, at_nat, ix_0, ix_1, ix_2, ix_3, idx_l, idx_t, o_eq, o_eqb, small_nil, small_c1, small_c2, small_c3, small_c4, small_c5, small_c6, o_isi, ty_int_non, ty_int_bl, ty_int_int, ty_int_str, ty_int_tup, ty_int_lst, ty_int_dic, ty_int_set, ty_bool_non, ty_bool_bl, ty_bool_int, ty_bool_str, ty_bool_tup, ty_bool_lst, ty_bool_dic, ty_bool_set, ty_str_non, ty_str_bl, ty_str_int, ty_str_str, ty_str_tup, ty_str_lst, ty_str_dic, ty_str_set, ty_tuple_non, ty_tuple_bl, ty_tuple_int, ty_tuple_str, ty_tuple_tup, ty_tuple_lst, ty_tuple_dic, ty_tuple_set, ty_list_non, ty_list_bl, ty_list_int, ty_list_str, ty_list_tup, ty_list_lst, ty_list_dic, ty_list_set, ty_dict_non, ty_dict_bl, ty_dict_int, ty_dict_str, ty_dict_tup, ty_dict_lst, ty_dict_dic, ty_dict_set, ty_set_non, ty_set_bl, ty_set_int, ty_set_str, ty_set_tup, ty_set_lst, ty_set_dic, ty_set_set, eqF_self (d := .str x) hd (by decide)]; exact q
  | succ n ih =>
    intro d Q E hd hn q
    have two : n + 1 ≤ deepest := by unfold deepest; omega
    unfold F__law_same b__law_same
    cases d with
    | dic a b => simp [D.plain] at hd
    | set a => simp [D.plain] at hd
    | non => simp only [wp_ret, wp_stuck, wp_bnd, kb_ap, wp_lift, wo_some, wo_none, wo_ite, wo_map, wp_ite, ks_nx, ks_rt, ks_bk, ks_ct, wp_seq, wp_pk, kpk_v, kpk_ow, wp_rd, krd_v, krd_ow, wp_mv, kmv_v, kmv_ow, wp_cst, wp_use2, k2_ap, wp_op2, wp_use1, k1_ap, wp_op1, wp_useN, kN_ap, wp_opN, rsv_d, rsv_pk, ksv_v, ksv_ow, rsvs_nil, rsvs_cons, kcons_ap, wp_osN, wp_osC, wp_lsN, wp_lsC, wp_fsN, wp_fsC, wp_opd, wp_frz, wp_tupM, wp_lstM, wp_tst, ktst_bl, wp_notB, wp_andB, wp_orB, wp_andV, wp_orV, wp_notV, wp_ifE, wp_drop, wp_retM, wp_retN, fr_v, fr_un, fr_ow, pl_v, pl_un, fr_pl, frO_ap, plO_ap, slot_f, slot_t, wp_put, wp_setM, wp_parM, puts_nil, puts_cons, kt_ap, wt_N, wts_nil, wts_cons, wt_T, wp_setT, wp_tg, wp_appU, kap_ap, isL_ap, kapp_ap, wp_appE, wp_setP, kset_ap, wp_setIx, wp_setQ, wp_useF, kcall_ap, kpb_ap, kpe_ap, wp_callM, kargs_ap, argsOf_nil, argsOf_cons, argOf_d, argOf_pk, karg_v, karg_ow, pks_nil, pks_d, pks_pk, kpks_ow, kpks_v, nodupN_nil, nodupN_one, nodupN_cons, pb_nil, pb_d, pb_dU, pb_pk, kpbk_ap, kr_rt, kr_nx, kre_ap, wp_runB, back_nil, back_v, back_ow, wp_forM, wp_srcV, wp_srcA, kfor_nx, kfor_ct, kfor_bk, kfor_rt, wp_forGo_nil, wb_nil, npO_ap, wb_cons, wp_lcM, klc_ap, wp_lcB, kel_ap, kco_t, kco_f, kco_d, List.getElem?_cons_zero, List.getElem?_cons_succ, List.set_cons_zero, List.set_cons_succ, List.length_cons, List.length_nil, List.length_append, List.replicate_succ, List.replicate_zero, List.cons_append, List.nil_append, if_true, if_false, ite_true, ite_false, Bool.false_eq_true, true_and, and_true, decide_eq_true_eq, Bool.not_true, Bool.not_false, Bool.not_eq_true', decide_eq_false_iff_not, reduceIte, reduceCtorEq, Nat.zero_add, Nat.reduceAdd, Nat.reduceSub, List.contains_nil, List.contains_cons, Bool.and_true, Bool.or_false, Bool.and_self, beq_self_eq_true, Nat.reduceBEq, Nat.reduceEqDiff, Nat.succ_eq_add_one, rst, List.getD_cons_zero, List.getD_cons_succ, isF, lenF, listF, tupleF, o_int, o_inti, o_addl, o_addt, o_mulb, absF, minF, maxF, sumF, seqOf, not_true_eq_false, not_false_eq_true, Bool.or_true, Bool.true_or, Bool.false_or, Bool.true_and, Bool.false_and, Bool.and_false, Option.map_some, Option.map_none, bne_f, bne_t, dec_not, fr_pl, nums_int, List.length_map, o_lt, o_le, o_gt, o_ge, o_add, o_sub, o_mul, o_div, o_mod, o_pow, o_rng1, o_rng2, at_0, at_1, at_2, at_3, at_4, at_5, at_nat, ix_0, ix_1, ix_2, ix_3, idx_l, idx_t, o_eq, o_eqb, small_nil, small_c1, small_c2, small_c3, small_c4, small_c5, small_c6, o_isi, ty_int_non, ty_int_bl, ty_int_int, ty_int_str, ty_int_tup, ty_int_lst, ty_int_dic, ty_int_set, ty_bool_non, ty_bool_bl, ty_bool_int, ty_bool_str, ty_bool_tup, ty_bool_lst, ty_bool_dic, ty_bool_set, ty_str_non, ty_str_bl, ty_str_int, ty_str_str, ty_str_tup, ty_str_lst, ty_str_dic, ty_str_set, ty_tuple_non, ty_tuple_bl, ty_tuple_int, ty_tuple_str, ty_tuple_tup, ty_tuple_lst, ty_tuple_dic, ty_tuple_set, ty_list_non, ty_list_bl, ty_list_int, ty_list_str, ty_list_tup, ty_list_lst, ty_list_dic, ty_list_set, ty_dict_non, ty_dict_bl, ty_dict_int, ty_dict_str, ty_dict_tup, ty_dict_lst, ty_dict_dic, ty_dict_set, ty_set_non, ty_set_bl, ty_set_int, ty_set_str, ty_set_tup, ty_set_lst, ty_set_dic, ty_set_set, eqF_self (d := .non) hd two]; exact q
    | bl b => simp only [wp_ret, wp_stuck, wp_bnd, kb_ap, wp_lift, wo_some, wo_none, wo_ite, wo_map, wp_ite, ks_nx, ks_rt, ks_bk, ks_ct, wp_seq, wp_pk, kpk_v, kpk_ow, wp_rd, krd_v, krd_ow, wp_mv, kmv_v, kmv_ow, wp_cst, wp_use2, k2_ap, wp_op2, wp_use1, k1_ap, wp_op1, wp_useN, kN_ap, wp_opN, rsv_d, rsv_pk, ksv_v, ksv_ow, rsvs_nil, rsvs_cons, kcons_ap, wp_osN, wp_osC, wp_lsN, wp_lsC, wp_fsN, wp_fsC, wp_opd, wp_frz, wp_tupM, wp_lstM, wp_tst, ktst_bl, wp_notB, wp_andB, wp_orB, wp_andV, wp_orV, wp_notV, wp_ifE, wp_drop, wp_retM, wp_retN, fr_v, fr_un, fr_ow, pl_v, pl_un, fr_pl, frO_ap, plO_ap, slot_f, slot_t, wp_put, wp_setM, wp_parM, puts_nil, puts_cons, kt_ap, wt_N, wts_nil, wts_cons, wt_T, wp_setT, wp_tg, wp_appU, kap_ap, isL_ap, kapp_ap, wp_appE, wp_setP, kset_ap, wp_setIx, wp_setQ, wp_useF, kcall_ap, kpb_ap, kpe_ap, wp_callM, kargs_ap, argsOf_nil, argsOf_cons, argOf_d, argOf_pk, karg_v, karg_ow, pks_nil, pks_d, pks_pk, kpks_ow, kpks_v, nodupN_nil, nodupN_one, nodupN_cons, pb_nil, pb_d, pb_dU, pb_pk, kpbk_ap, kr_rt, kr_nx, kre_ap, wp_runB, back_nil, back_v, back_ow, wp_forM, wp_srcV, wp_srcA, kfor_nx, kfor_ct, kfor_bk, kfor_rt, wp_forGo_nil, wb_nil, npO_ap, wb_cons, wp_lcM, klc_ap, wp_lcB, kel_ap, kco_t, kco_f, kco_d, List.getElem?_cons_zero, List.getElem?_cons_succ, List.set_cons_zero, List.set_cons_succ, List.length_cons, List.length_nil, List.length_append, List.replicate_succ, List.replicate_zero, List.cons_append, List.nil_append, if_true, if_false, ite_true, ite_false, Bool.false_eq_true, true_and, and_true, decide_eq_true_eq, Bool.not_true, Bool.not_false, Bool.not_eq_true', decide_eq_false_iff_not, reduceIte, reduceCtorEq, Nat.zero_add, Nat.reduceAdd, Nat.reduceSub, List.contains_nil, List.contains_cons, Bool.and_true, Bool.or_false, Bool.and_self, beq_self_eq_true, Nat.reduceBEq, Nat.reduceEqDiff, Nat.succ_eq_add_one, rst, List.getD_cons_zero, List.getD_cons_succ, isF, lenF, listF, tupleF, o_int, o_inti, o_addl, o_addt, o_mulb, absF, minF, maxF, sumF, seqOf, not_true_eq_false, not_false_eq_true, Bool.or_true, Bool.true_or, Bool.false_or, Bool.true_and, Bool.false_and, Bool.and_false, Option.map_some, Option.map_none, bne_f, bne_t, dec_not, fr_pl, nums_int, List.length_map, o_lt, o_le, o_gt, o_ge, o_add, o_sub, o_mul, o_div, o_mod, o_pow, o_rng1, o_rng2, at_0, at_1, at_2, at_3, at_4, at_5, at_nat, ix_0, ix_1, ix_2, ix_3, idx_l, idx_t, o_eq, o_eqb, small_nil, small_c1, small_c2, small_c3, small_c4, small_c5, small_c6, o_isi, ty_int_non, ty_int_bl, ty_int_int, ty_int_str, ty_int_tup, ty_int_lst, ty_int_dic, ty_int_set, ty_bool_non, ty_bool_bl, ty_bool_int, ty_bool_str, ty_bool_tup, ty_bool_lst, ty_bool_dic, ty_bool_set, ty_str_non, ty_str_bl, ty_str_int, ty_str_str, ty_str_tup, ty_str_lst, ty_str_dic, ty_str_set, ty_tuple_non, ty_tuple_bl, ty_tuple_int, ty_tuple_str, ty_tuple_tup, ty_tuple_lst, ty_tuple_dic, ty_tuple_set, ty_list_non, ty_list_bl, ty_list_int, ty_list_str, ty_list_tup, ty_list_lst, ty_list_dic, ty_list_set, ty_dict_non, ty_dict_bl, ty_dict_int, ty_dict_str, ty_dict_tup, ty_dict_lst, ty_dict_dic, ty_dict_set, ty_set_non, ty_set_bl, ty_set_int, ty_set_str, ty_set_tup, ty_set_lst, ty_set_dic, ty_set_set, eqF_self (d := .bl b) hd two]; exact q
    | int i => simp only [wp_ret, wp_stuck, wp_bnd, kb_ap, wp_lift, wo_some, wo_none, wo_ite, wo_map, wp_ite, ks_nx, ks_rt, ks_bk, ks_ct, wp_seq, wp_pk, kpk_v, kpk_ow, wp_rd, krd_v, krd_ow, wp_mv, kmv_v, kmv_ow, wp_cst, wp_use2, k2_ap, wp_op2, wp_use1, k1_ap, wp_op1, wp_useN, kN_ap, wp_opN, rsv_d, rsv_pk, ksv_v, ksv_ow, rsvs_nil, rsvs_cons, kcons_ap, wp_osN, wp_osC, wp_lsN, wp_lsC, wp_fsN, wp_fsC, wp_opd, wp_frz, wp_tupM, wp_lstM, wp_tst, ktst_bl, wp_notB, wp_andB, wp_orB, wp_andV, wp_orV, wp_notV, wp_ifE, wp_drop, wp_retM, wp_retN, fr_v, fr_un, fr_ow, pl_v, pl_un, fr_pl, frO_ap, plO_ap, slot_f, slot_t, wp_put, wp_setM, wp_parM, puts_nil, puts_cons, kt_ap, wt_N, wts_nil, wts_cons, wt_T, wp_setT, wp_tg, wp_appU, kap_ap, isL_ap, kapp_ap, wp_appE, wp_setP, kset_ap, wp_setIx, wp_setQ, wp_useF, kcall_ap, kpb_ap, kpe_ap, wp_callM, kargs_ap, argsOf_nil, argsOf_cons, argOf_d, argOf_pk, karg_v, karg_ow, pks_nil, pks_d, pks_pk, kpks_ow, kpks_v, nodupN_nil, nodupN_one, nodupN_cons, pb_nil, pb_d, pb_dU, pb_pk, kpbk_ap, kr_rt, kr_nx, kre_ap, wp_runB, back_nil, back_v, back_ow, wp_forM, wp_srcV, wp_srcA, kfor_nx, kfor_ct, kfor_bk, kfor_rt, wp_forGo_nil, wb_nil, npO_ap, wb_cons, wp_lcM, klc_ap, wp_lcB, kel_ap, kco_t, kco_f, kco_d, List.getElem?_cons_zero, List.getElem?_cons_succ, List.set_cons_zero, List.set_cons_succ, List.length_cons, List.length_nil, List.length_append, List.replicate_succ, List.replicate_zero, List.cons_append, List.nil_append, if_true, if_false, ite_true, ite_false, Bool.false_eq_true, true_and, and_true, decide_eq_true_eq, Bool.not_true, Bool.not_false, Bool.not_eq_true', decide_eq_false_iff_not, reduceIte, reduceCtorEq, Nat.zero_add, Nat.reduceAdd, Nat.reduceSub, List.contains_nil, List.contains_cons, Bool.and_true, Bool.or_false, Bool.and_self, beq_self_eq_true, Nat.reduceBEq, Nat.reduceEqDiff, Nat.succ_eq_add_one, rst, List.getD_cons_zero, List.getD_cons_succ, isF, lenF, listF, tupleF, o_int, o_inti, o_addl, o_addt, o_mulb, absF, minF, maxF, sumF, seqOf, not_true_eq_false, not_false_eq_true, Bool.or_true, Bool.true_or, Bool.false_or, Bool.true_and, Bool.false_and, Bool.and_false, Option.map_some, Option.map_none, bne_f, bne_t, dec_not, fr_pl, nums_int, List.length_map, o_lt, o_le, o_gt, o_ge, o_add, o_sub, o_mul, o_div, o_mod, o_pow, o_rng1, o_rng2, at_0, at_1, at_2, at_3, at_4, at_5, at_nat, ix_0, ix_1, ix_2, ix_3, idx_l, idx_t, o_eq, o_eqb, small_nil, small_c1, small_c2, small_c3, small_c4, small_c5, small_c6, o_isi, ty_int_non, ty_int_bl, ty_int_int, ty_int_str, ty_int_tup, ty_int_lst, ty_int_dic, ty_int_set, ty_bool_non, ty_bool_bl, ty_bool_int, ty_bool_str, ty_bool_tup, ty_bool_lst, ty_bool_dic, ty_bool_set, ty_str_non, ty_str_bl, ty_str_int, ty_str_str, ty_str_tup, ty_str_lst, ty_str_dic, ty_str_set, ty_tuple_non, ty_tuple_bl, ty_tuple_int, ty_tuple_str, ty_tuple_tup, ty_tuple_lst, ty_tuple_dic, ty_tuple_set, ty_list_non, ty_list_bl, ty_list_int, ty_list_str, ty_list_tup, ty_list_lst, ty_list_dic, ty_list_set, ty_dict_non, ty_dict_bl, ty_dict_int, ty_dict_str, ty_dict_tup, ty_dict_lst, ty_dict_dic, ty_dict_set, ty_set_non, ty_set_bl, ty_set_int, ty_set_str, ty_set_tup, ty_set_lst, ty_set_dic, ty_set_set, eqF_self (d := .int i) hd two]; exact q
    | str x => simp only [wp_ret, wp_stuck, wp_bnd, kb_ap, wp_lift, wo_some, wo_none, wo_ite, wo_map, wp_ite, ks_nx, ks_rt, ks_bk, ks_ct, wp_seq, wp_pk, kpk_v, kpk_ow, wp_rd, krd_v, krd_ow, wp_mv, kmv_v, kmv_ow, wp_cst, wp_use2, k2_ap, wp_op2, wp_use1, k1_ap, wp_op1, wp_useN, kN_ap, wp_opN, rsv_d, rsv_pk, ksv_v, ksv_ow, rsvs_nil, rsvs_cons, kcons_ap, wp_osN, wp_osC, wp_lsN, wp_lsC, wp_fsN, wp_fsC, wp_opd, wp_frz, wp_tupM, wp_lstM, wp_tst, ktst_bl, wp_notB, wp_andB, wp_orB, wp_andV, wp_orV, wp_notV, wp_ifE, wp_drop, wp_retM, wp_retN, fr_v, fr_un, fr_ow, pl_v, pl_un, fr_pl, frO_ap, plO_ap, slot_f, slot_t, wp_put, wp_setM, wp_parM, puts_nil, puts_cons, kt_ap, wt_N, wts_nil, wts_cons, wt_T, wp_setT, wp_tg, wp_appU, kap_ap, isL_ap, kapp_ap, wp_appE, wp_setP, kset_ap, wp_setIx, wp_setQ, wp_useF, kcall_ap, kpb_ap, kpe_ap, wp_callM, kargs_ap, argsOf_nil, argsOf_cons, argOf_d, argOf_pk, karg_v, karg_ow, pks_nil, pks_d, pks_pk, kpks_ow, kpks_v, nodupN_nil, nodupN_one, nodupN_cons, pb_nil, pb_d, pb_dU, pb_pk, kpbk_ap, kr_rt, kr_nx, kre_ap, wp_runB, back_nil, back_v, back_ow, wp_forM, wp_srcV, wp_srcA, kfor_nx, kfor_ct, kfor_bk, kfor_rt, wp_forGo_nil, wb_nil, npO_ap, wb_cons, wp_lcM, klc_ap, wp_lcB, kel_ap, kco_t, kco_f, kco_d, List.getElem?_cons_zero, List.getElem?_cons_succ, List.set_cons_zero, List.set_cons_succ, List.length_cons, List.length_nil, List.length_append, List.replicate_succ, List.replicate_zero, List.cons_append, List.nil_append, if_true, if_false, ite_true, ite_false, Bool.false_eq_true, true_and, and_true, decide_eq_true_eq, Bool.not_true, Bool.not_false, Bool.not_eq_true', decide_eq_false_iff_not, reduceIte, reduceCtorEq, Nat.zero_add, Nat.reduceAdd, Nat.reduceSub, List.contains_nil, List.contains_cons, Bool.and_true, Bool.or_false, Bool.and_self, beq_self_eq_true, Nat.reduceBEq, Nat.reduceEqDiff, Nat.succ_eq_add_one, rst, List.getD_cons_zero, List.getD_cons_succ, isF, lenF, listF, tupleF, o_int, o_inti, o_addl, o_addt, o_mulb, absF, minF, maxF, sumF, seqOf, not_true_eq_false, not_false_eq_true, Bool.or_true, Bool.true_or, Bool.false_or, Bool.true_and, Bool.false_and, Bool.and_false, Option.map_some, Option.map_none, bne_f, bne_t, dec_not, fr_pl, nums_int, List.length_map, o_lt, o_le, o_gt, o_ge, o_add, o_sub, o_mul, o_div, o_mod, o_pow, o_rng1, o_rng2, at_0, at_1, at_2, at_3, at_4, at_5, at_nat, ix_0, ix_1, ix_2, ix_3, idx_l, idx_t, o_eq, o_eqb, small_nil, small_c1, small_c2, small_c3, small_c4, small_c5, small_c6, o_isi, ty_int_non, ty_int_bl, ty_int_int, ty_int_str, ty_int_tup, ty_int_lst, ty_int_dic, ty_int_set, ty_bool_non, ty_bool_bl, ty_bool_int, ty_bool_str, ty_bool_tup, ty_bool_lst, ty_bool_dic, ty_bool_set, ty_str_non, ty_str_bl, ty_str_int, ty_str_str, ty_str_tup, ty_str_lst, ty_str_dic, ty_str_set, ty_tuple_non, ty_tuple_bl, ty_tuple_int, ty_tuple_str, ty_tuple_tup, ty_tuple_lst, ty_tuple_dic, ty_tuple_set, ty_list_non, ty_list_bl, ty_list_int, ty_list_str, ty_list_tup, ty_list_lst, ty_list_dic, ty_list_set, ty_dict_non, ty_dict_bl, ty_dict_int, ty_dict_str, ty_dict_tup, ty_dict_lst, ty_dict_dic, ty_dict_set, ty_set_non, ty_set_bl, ty_set_int, ty_set_str, ty_set_tup, ty_set_lst, ty_set_dic, ty_set_set, eqF_self (d := .str x) hd two]; exact q
    | tup ds =>
      simp only [D.plain] at hd
      simp only [wp_ret, wp_stuck, wp_bnd, kb_ap, wp_lift, wo_some, wo_none, wo_ite, wo_map, wp_ite, ks_nx, ks_rt, ks_bk, ks_ct, wp_seq, wp_pk, kpk_v, kpk_ow, wp_rd, krd_v, krd_ow, wp_mv, kmv_v, kmv_ow, wp_cst, wp_use2, k2_ap, wp_op2, wp_use1, k1_ap, wp_op1, wp_useN, kN_ap, wp_opN, rsv_d, rsv_pk, ksv_v, ksv_ow, rsvs_nil, rsvs_cons, kcons_ap, wp_osN, wp_osC, wp_lsN, wp_lsC, wp_fsN, wp_fsC, wp_opd, wp_frz, wp_tupM, wp_lstM, wp_tst, ktst_bl, wp_notB, wp_andB, wp_orB, wp_andV, wp_orV, wp_notV, wp_ifE, wp_drop, wp_retM, wp_retN, fr_v, fr_un, fr_ow, pl_v, pl_un, fr_pl, frO_ap, plO_ap, slot_f, slot_t, wp_put, wp_setM, wp_parM, puts_nil, puts_cons, kt_ap, wt_N, wts_nil, wts_cons, wt_T, wp_setT, wp_tg, wp_appU, kap_ap, isL_ap, kapp_ap, wp_appE, wp_setP, kset_ap, wp_setIx, wp_setQ, wp_useF, kcall_ap, kpb_ap, kpe_ap, wp_callM, kargs_ap, argsOf_nil, argsOf_cons, argOf_d, argOf_pk, karg_v, karg_ow, pks_nil, pks_d, pks_pk, kpks_ow, kpks_v, nodupN_nil, nodupN_one, nodupN_cons, pb_nil, pb_d, pb_dU, pb_pk, kpbk_ap, kr_rt, kr_nx, kre_ap, wp_runB, back_nil, back_v, back_ow, wp_forM, wp_srcV, wp_srcA, kfor_nx, kfor_ct, kfor_bk, kfor_rt, wp_forGo_nil, wb_nil, npO_ap, wb_cons, wp_lcM, klc_ap, wp_lcB, kel_ap, kco_t, kco_f, kco_d, List.getElem?_cons_zero, List.getElem?_cons_succ, List.set_cons_zero, List.set_cons_succ, List.length_cons, List.length_nil, List.length_append, List.replicate_succ, List.replicate_zero, List.cons_append, List.nil_append, if_true, if_false, ite_true, ite_false, Bool.false_eq_true, true_and, and_true, decide_eq_true_eq, Bool.not_true, Bool.not_false, Bool.not_eq_true', decide_eq_false_iff_not, reduceIte, reduceCtorEq, Nat.zero_add, Nat.reduceAdd, Nat.reduceSub, List.contains_nil, List.contains_cons, Bool.and_true, Bool.or_false, Bool.and_self, beq_self_eq_true, Nat.reduceBEq, Nat.reduceEqDiff, Nat.succ_eq_add_one, rst, List.getD_cons_zero, List.getD_cons_succ, isF, lenF, listF, tupleF, o_int, o_inti, o_addl, o_addt, o_mulb, absF, minF, maxF, sumF, seqOf, not_true_eq_false, not_false_eq_true, Bool.or_true, Bool.true_or, Bool.false_or, Bool.true_and, Bool.false_and, Bool.and_false, Option.map_some, Option.map_none, bne_f, bne_t, dec_not, fr_pl, nums_int, List.length_map, o_lt, o_le, o_gt, o_ge, o_add, o_sub, o_mul, o_div, o_mod, o_pow, o_rng1, o_rng2, at_0, at_1, at_2, at_3, at_4, at_5, at_nat, ix_0, ix_1, ix_2, ix_3, idx_l, idx_t, o_eq, o_eqb, small_nil, small_c1, small_c2, small_c3, small_c4, small_c5, small_c6, o_isi, ty_int_non, ty_int_bl, ty_int_int, ty_int_str, ty_int_tup, ty_int_lst, ty_int_dic, ty_int_set, ty_bool_non, ty_bool_bl, ty_bool_int, ty_bool_str, ty_bool_tup, ty_bool_lst, ty_bool_dic, ty_bool_set, ty_str_non, ty_str_bl, ty_str_int, ty_str_str, ty_str_tup, ty_str_lst, ty_str_dic, ty_str_set, ty_tuple_non, ty_tuple_bl, ty_tuple_int, ty_tuple_str, ty_tuple_tup, ty_tuple_lst, ty_tuple_dic, ty_tuple_set, ty_list_non, ty_list_bl, ty_list_int, ty_list_str, ty_list_tup, ty_list_lst, ty_list_dic, ty_list_set, ty_dict_non, ty_dict_bl, ty_dict_int, ty_dict_str, ty_dict_tup, ty_dict_lst, ty_dict_dic, ty_dict_set, ty_set_non, ty_set_bl, ty_set_int, ty_set_str, ty_set_tup, ty_set_lst, ty_set_dic, ty_set_set, zip_t]
      refine wp_lcS (fun _ => none) (fun d hd2 => ?_) ?_
      · obtain ⟨x, hx, rfl⟩ := zip_self hd2
        simp only [wp_ret, wp_stuck, wp_bnd, kb_ap, wp_lift, wo_some, wo_none, wo_ite, wo_map, wp_ite, ks_nx, ks_rt, ks_bk, ks_ct, wp_seq, wp_pk, kpk_v, kpk_ow, wp_rd, krd_v, krd_ow, wp_mv, kmv_v, kmv_ow, wp_cst, wp_use2, k2_ap, wp_op2, wp_use1, k1_ap, wp_op1, wp_useN, kN_ap, wp_opN, rsv_d, rsv_pk, ksv_v, ksv_ow, rsvs_nil, rsvs_cons, kcons_ap, wp_osN, wp_osC, wp_lsN, wp_lsC, wp_fsN, wp_fsC, wp_opd, wp_frz, wp_tupM, wp_lstM, wp_tst, ktst_bl, wp_notB, wp_andB, wp_orB, wp_andV, wp_orV, wp_notV, wp_ifE, wp_drop, wp_retM, wp_retN, fr_v, fr_un, fr_ow, pl_v, pl_un, fr_pl, frO_ap, plO_ap, slot_f, slot_t, wp_put, wp_setM, wp_parM, puts_nil, puts_cons, kt_ap, wt_N, wts_nil, wts_cons, wt_T, wp_setT, wp_tg, wp_appU, kap_ap, isL_ap, kapp_ap, wp_appE, wp_setP, kset_ap, wp_setIx, wp_setQ, wp_useF, kcall_ap, kpb_ap, kpe_ap, wp_callM, kargs_ap, argsOf_nil, argsOf_cons, argOf_d, argOf_pk, karg_v, karg_ow, pks_nil, pks_d, pks_pk, kpks_ow, kpks_v, nodupN_nil, nodupN_one, nodupN_cons, pb_nil, pb_d, pb_dU, pb_pk, kpbk_ap, kr_rt, kr_nx, kre_ap, wp_runB, back_nil, back_v, back_ow, wp_forM, wp_srcV, wp_srcA, kfor_nx, kfor_ct, kfor_bk, kfor_rt, wp_forGo_nil, wb_nil, npO_ap, wb_cons, wp_lcM, klc_ap, wp_lcB, kel_ap, kco_t, kco_f, kco_d, List.getElem?_cons_zero, List.getElem?_cons_succ, List.set_cons_zero, List.set_cons_succ, List.length_cons, List.length_nil, List.length_append, List.replicate_succ, List.replicate_zero, List.cons_append, List.nil_append, if_true, if_false, ite_true, ite_false, Bool.false_eq_true, true_and, and_true, decide_eq_true_eq, Bool.not_true, Bool.not_false, Bool.not_eq_true', decide_eq_false_iff_not, reduceIte, reduceCtorEq, Nat.zero_add, Nat.reduceAdd, Nat.reduceSub, List.contains_nil, List.contains_cons, Bool.and_true, Bool.or_false, Bool.and_self, beq_self_eq_true, Nat.reduceBEq, Nat.reduceEqDiff, Nat.succ_eq_add_one, rst, List.getD_cons_zero, List.getD_cons_succ, isF, lenF, listF, tupleF, o_int, o_inti, o_addl, o_addt, o_mulb, absF, minF, maxF, sumF, seqOf, not_true_eq_false, not_false_eq_true, Bool.or_true, Bool.true_or, Bool.false_or, Bool.true_and, Bool.false_and, Bool.and_false, Option.map_some, Option.map_none, bne_f, bne_t, dec_not, fr_pl, nums_int, List.length_map, o_lt, o_le, o_gt, o_ge, o_add, o_sub, o_mul, o_div, o_mod, o_pow, o_rng1, o_rng2, at_0, at_1, at_2, at_3, at_4, at_5, at_nat, ix_0, ix_1, ix_2, ix_3, idx_l, idx_t, o_eq, o_eqb, small_nil, small_c1, small_c2, small_c3, small_c4, small_c5, small_c6, o_isi, ty_int_non, ty_int_bl, ty_int_int, ty_int_str, ty_int_tup, ty_int_lst, ty_int_dic, ty_int_set, ty_bool_non, ty_bool_bl, ty_bool_int, ty_bool_str, ty_bool_tup, ty_bool_lst, ty_bool_dic, ty_bool_set, ty_str_non, ty_str_bl, ty_str_int, ty_str_str, ty_str_tup, ty_str_lst, ty_str_dic, ty_str_set, ty_tuple_non, ty_tuple_bl, ty_tuple_int, ty_tuple_str, ty_tuple_tup, ty_tuple_lst, ty_tuple_dic, ty_tuple_set, ty_list_non, ty_list_bl, ty_list_int, ty_list_str, ty_list_tup, ty_list_lst, ty_list_dic, ty_list_set, ty_dict_non, ty_dict_bl, ty_dict_int, ty_dict_str, ty_dict_tup, ty_dict_lst, ty_dict_dic, ty_dict_set, ty_set_non, ty_set_bl, ty_set_int, ty_set_str, ty_set_tup, ty_set_lst, ty_set_dic, ty_set_set]
        exact ih x _ _ (plains_mem hd hx) (by omega) (by simp only [wp_ret, wp_stuck, wp_bnd, kb_ap, wp_lift, wo_some, wo_none, wo_ite, wo_map, wp_ite, ks_nx, ks_rt, ks_bk, ks_ct, wp_seq, wp_pk, kpk_v, kpk_ow, wp_rd, krd_v, krd_ow, wp_mv, kmv_v, kmv_ow, wp_cst, wp_use2, k2_ap, wp_op2, wp_use1, k1_ap, wp_op1, wp_useN, kN_ap, wp_opN, rsv_d, rsv_pk, ksv_v, ksv_ow, rsvs_nil, rsvs_cons, kcons_ap, wp_osN, wp_osC, wp_lsN, wp_lsC, wp_fsN, wp_fsC, wp_opd, wp_frz, wp_tupM, wp_lstM, wp_tst, ktst_bl, wp_notB, wp_andB, wp_orB, wp_andV, wp_orV, wp_notV, wp_ifE, wp_drop, wp_retM, wp_retN, fr_v, fr_un, fr_ow, pl_v, pl_un, fr_pl, frO_ap, plO_ap, slot_f, slot_t, wp_put, wp_setM, wp_parM, puts_nil, puts_cons, kt_ap, wt_N, wts_nil, wts_cons, wt_T, wp_setT, wp_tg, wp_appU, kap_ap, isL_ap, kapp_ap, wp_appE, wp_setP, kset_ap, wp_setIx, wp_setQ, wp_useF, kcall_ap, kpb_ap, kpe_ap, wp_callM, kargs_ap, argsOf_nil, argsOf_cons, argOf_d, argOf_pk, karg_v, karg_ow, pks_nil, pks_d, pks_pk, kpks_ow, kpks_v, nodupN_nil, nodupN_one, nodupN_cons, pb_nil, pb_d, pb_dU, pb_pk, kpbk_ap, kr_rt, kr_nx, kre_ap, wp_runB, back_nil, back_v, back_ow, wp_forM, wp_srcV, wp_srcA, kfor_nx, kfor_ct, kfor_bk, kfor_rt, wp_forGo_nil, wb_nil, npO_ap, wb_cons, wp_lcM, klc_ap, wp_lcB, kel_ap, kco_t, kco_f, kco_d, List.getElem?_cons_zero, List.getElem?_cons_succ, List.set_cons_zero, List.set_cons_succ, List.length_cons, List.length_nil, List.length_append, List.replicate_succ, List.replicate_zero, List.cons_append, List.nil_append, if_true, if_false, ite_true, ite_false, Bool.false_eq_true, true_and, and_true, decide_eq_true_eq, Bool.not_true, Bool.not_false, Bool.not_eq_true', decide_eq_false_iff_not, reduceIte, reduceCtorEq, Nat.zero_add, Nat.reduceAdd, Nat.reduceSub, List.contains_nil, List.contains_cons, Bool.and_true, Bool.or_false, Bool.and_self, beq_self_eq_true, Nat.reduceBEq, Nat.reduceEqDiff, Nat.succ_eq_add_one, rst, List.getD_cons_zero, List.getD_cons_succ, isF, lenF, listF, tupleF, o_int, o_inti, o_addl, o_addt, o_mulb, absF, minF, maxF, sumF, seqOf, not_true_eq_false, not_false_eq_true, Bool.or_true, Bool.true_or, Bool.false_or, Bool.true_and, Bool.false_and, Bool.and_false, Option.map_some, Option.map_none, bne_f, bne_t, dec_not, fr_pl, nums_int, List.length_map, o_lt, o_le, o_gt, o_ge, o_add, o_sub, o_mul, o_div, o_mod, o_pow, o_rng1, o_rng2, at_0, at_1, at_2, at_3, at_4, at_5, at_nat, ix_0, ix_1, ix_2, ix_3, idx_l, idx_t, o_eq, o_eqb, small_nil, small_c1, small_c2, small_c3, small_c4, small_c5, small_c6, o_isi, ty_int_non, ty_int_bl, ty_int_int, ty_int_str, ty_int_tup, ty_int_lst, ty_int_dic, ty_int_set, ty_bool_non, ty_bool_bl, ty_bool_int, ty_bool_str, ty_bool_tup, ty_bool_lst, ty_bool_dic, ty_bool_set, ty_str_non, ty_str_bl, ty_str_int, ty_str_str, ty_str_tup, ty_str_lst, ty_str_dic, ty_str_set, ty_tuple_non, ty_tuple_bl, ty_tuple_int, ty_tuple_str, ty_tuple_tup, ty_tuple_lst, ty_tuple_dic, ty_tuple_set, ty_list_non, ty_list_bl, ty_list_int, ty_list_str, ty_list_tup, ty_list_lst, ty_list_dic, ty_list_set, ty_dict_non, ty_dict_bl, ty_dict_int, ty_dict_str, ty_dict_tup, ty_dict_lst, ty_dict_dic, ty_dict_set, ty_set_non, ty_set_bl, ty_set_int, ty_set_str, ty_set_tup, ty_set_lst, ty_set_dic, ty_set_set])
      · simp only [wp_ret, wp_stuck, wp_bnd, kb_ap, wp_lift, wo_some, wo_none, wo_ite, wo_map, wp_ite, ks_nx, ks_rt, ks_bk, ks_ct, wp_seq, wp_pk, kpk_v, kpk_ow, wp_rd, krd_v, krd_ow, wp_mv, kmv_v, kmv_ow, wp_cst, wp_use2, k2_ap, wp_op2, wp_use1, k1_ap, wp_op1, wp_useN, kN_ap, wp_opN, rsv_d, rsv_pk, ksv_v, ksv_ow, rsvs_nil, rsvs_cons, kcons_ap, wp_osN, wp_osC, wp_lsN, wp_lsC, wp_fsN, wp_fsC, wp_opd, wp_frz, wp_tupM, wp_lstM, wp_tst, ktst_bl, wp_notB, wp_andB, wp_orB, wp_andV, wp_orV, wp_notV, wp_ifE, wp_drop, wp_retM, wp_retN, fr_v, fr_un, fr_ow, pl_v, pl_un, fr_pl, frO_ap, plO_ap, slot_f, slot_t, wp_put, wp_setM, wp_parM, puts_nil, puts_cons, kt_ap, wt_N, wts_nil, wts_cons, wt_T, wp_setT, wp_tg, wp_appU, kap_ap, isL_ap, kapp_ap, wp_appE, wp_setP, kset_ap, wp_setIx, wp_setQ, wp_useF, kcall_ap, kpb_ap, kpe_ap, wp_callM, kargs_ap, argsOf_nil, argsOf_cons, argOf_d, argOf_pk, karg_v, karg_ow, pks_nil, pks_d, pks_pk, kpks_ow, kpks_v, nodupN_nil, nodupN_one, nodupN_cons, pb_nil, pb_d, pb_dU, pb_pk, kpbk_ap, kr_rt, kr_nx, kre_ap, wp_runB, back_nil, back_v, back_ow, wp_forM, wp_srcV, wp_srcA, kfor_nx, kfor_ct, kfor_bk, kfor_rt, wp_forGo_nil, wb_nil, npO_ap, wb_cons, wp_lcM, klc_ap, wp_lcB, kel_ap, kco_t, kco_f, kco_d, List.getElem?_cons_zero, List.getElem?_cons_succ, List.set_cons_zero, List.set_cons_succ, List.length_cons, List.length_nil, List.length_append, List.replicate_succ, List.replicate_zero, List.cons_append, List.nil_append, if_true, if_false, ite_true, ite_false, Bool.false_eq_true, true_and, and_true, decide_eq_true_eq, Bool.not_true, Bool.not_false, Bool.not_eq_true', decide_eq_false_iff_not, reduceIte, reduceCtorEq, Nat.zero_add, Nat.reduceAdd, Nat.reduceSub, List.contains_nil, List.contains_cons, Bool.and_true, Bool.or_false, Bool.and_self, beq_self_eq_true, Nat.reduceBEq, Nat.reduceEqDiff, Nat.succ_eq_add_one, rst, List.getD_cons_zero, List.getD_cons_succ, isF, lenF, listF, tupleF, o_int, o_inti, o_addl, o_addt, o_mulb, absF, minF, maxF, sumF, seqOf, not_true_eq_false, not_false_eq_true, Bool.or_true, Bool.true_or, Bool.false_or, Bool.true_and, Bool.false_and, Bool.and_false, Option.map_some, Option.map_none, bne_f, bne_t, dec_not, fr_pl, nums_int, List.length_map, o_lt, o_le, o_gt, o_ge, o_add, o_sub, o_mul, o_div, o_mod, o_pow, o_rng1, o_rng2, at_0, at_1, at_2, at_3, at_4, at_5, at_nat, ix_0, ix_1, ix_2, ix_3, idx_l, idx_t, o_eq, o_eqb, small_nil, small_c1, small_c2, small_c3, small_c4, small_c5, small_c6, o_isi, ty_int_non, ty_int_bl, ty_int_int, ty_int_str, ty_int_tup, ty_int_lst, ty_int_dic, ty_int_set, ty_bool_non, ty_bool_bl, ty_bool_int, ty_bool_str, ty_bool_tup, ty_bool_lst, ty_bool_dic, ty_bool_set, ty_str_non, ty_str_bl, ty_str_int, ty_str_str, ty_str_tup, ty_str_lst, ty_str_dic, ty_str_set, ty_tuple_non, ty_tuple_bl, ty_tuple_int, ty_tuple_str, ty_tuple_tup, ty_tuple_lst, ty_tuple_dic, ty_tuple_set, ty_list_non, ty_list_bl, ty_list_int, ty_list_str, ty_list_tup, ty_list_lst, ty_list_dic, ty_list_set, ty_dict_non, ty_dict_bl, ty_dict_int, ty_dict_str, ty_dict_tup, ty_dict_lst, ty_dict_dic, ty_dict_set, ty_set_non, ty_set_bl, ty_set_int, ty_set_str, ty_set_tup, ty_set_lst, ty_set_dic, ty_set_set, List.filterMap_eq_nil_iff.mpr (fun a _ => rfl : ∀ a ∈ List.zipWith pairF ds ds, (fun _ => none : D → Option D) a = none), Int.natCast_zero]
        exact q
    | lst ds =>
      simp only [D.plain] at hd
      simp only [wp_ret, wp_stuck, wp_bnd, kb_ap, wp_lift, wo_some, wo_none, wo_ite, wo_map, wp_ite, ks_nx, ks_rt, ks_bk, ks_ct, wp_seq, wp_pk, kpk_v, kpk_ow, wp_rd, krd_v, krd_ow, wp_mv, kmv_v, kmv_ow, wp_cst, wp_use2, k2_ap, wp_op2, wp_use1, k1_ap, wp_op1, wp_useN, kN_ap, wp_opN, rsv_d, rsv_pk, ksv_v, ksv_ow, rsvs_nil, rsvs_cons, kcons_ap, wp_osN, wp_osC, wp_lsN, wp_lsC, wp_fsN, wp_fsC, wp_opd, wp_frz, wp_tupM, wp_lstM, wp_tst, ktst_bl, wp_notB, wp_andB, wp_orB, wp_andV, wp_orV, wp_notV, wp_ifE, wp_drop, wp_retM, wp_retN, fr_v, fr_un, fr_ow, pl_v, pl_un, fr_pl, frO_ap, plO_ap, slot_f, slot_t, wp_put, wp_setM, wp_parM, puts_nil, puts_cons, kt_ap, wt_N, wts_nil, wts_cons, wt_T, wp_setT, wp_tg, wp_appU, kap_ap, isL_ap, kapp_ap, wp_appE, wp_setP, kset_ap, wp_setIx, wp_setQ, wp_useF, kcall_ap, kpb_ap, kpe_ap, wp_callM, kargs_ap, argsOf_nil, argsOf_cons, argOf_d, argOf_pk, karg_v, karg_ow, pks_nil, pks_d, pks_pk, kpks_ow, kpks_v, nodupN_nil, nodupN_one, nodupN_cons, pb_nil, pb_d, pb_dU, pb_pk, kpbk_ap, kr_rt, kr_nx, kre_ap, wp_runB, back_nil, back_v, back_ow, wp_forM, wp_srcV, wp_srcA, kfor_nx, kfor_ct, kfor_bk, kfor_rt, wp_forGo_nil, wb_nil, npO_ap, wb_cons, wp_lcM, klc_ap, wp_lcB, kel_ap, kco_t, kco_f, kco_d, List.getElem?_cons_zero, List.getElem?_cons_succ, List.set_cons_zero, List.set_cons_succ, List.length_cons, List.length_nil, List.length_append, List.replicate_succ, List.replicate_zero, List.cons_append, List.nil_append, if_true, if_false, ite_true, ite_false, Bool.false_eq_true, true_and, and_true, decide_eq_true_eq, Bool.not_true, Bool.not_false, Bool.not_eq_true', decide_eq_false_iff_not, reduceIte, reduceCtorEq, Nat.zero_add, Nat.reduceAdd, Nat.reduceSub, List.contains_nil, List.contains_cons, Bool.and_true, Bool.or_false, Bool.and_self, beq_self_eq_true, Nat.reduceBEq, Nat.reduceEqDiff, Nat.succ_eq_add_one, rst, List.getD_cons_zero, List.getD_cons_succ, isF, lenF, listF, tupleF, o_int, o_inti, o_addl, o_addt, o_mulb, absF, minF, maxF, sumF, seqOf, not_true_eq_false, not_false_eq_true, Bool.or_true, Bool.true_or, Bool.false_or, Bool.true_and, Bool.false_and, Bool.and_false, Option.map_some, Option.map_none, bne_f, bne_t, dec_not, fr_pl, nums_int, List.length_map, o_lt, o_le, o_gt, o_ge, o_add, o_sub, o_mul, o_div, o_mod, o_pow, o_rng1, o_rng2, at_0, at_1, at_2, at_3, at_4, at_5, at_nat, ix_0, ix_1, ix_2, ix_3, idx_l, idx_t, o_eq, o_eqb, small_nil, small_c1, small_c2, small_c3, small_c4, small_c5, small_c6, o_isi, ty_int_non, ty_int_bl, ty_int_int, ty_int_str, ty_int_tup, ty_int_lst, ty_int_dic, ty_int_set, ty_bool_non, ty_bool_bl, ty_bool_int, ty_bool_str, ty_bool_tup, ty_bool_lst, ty_bool_dic, ty_bool_set, ty_str_non, ty_str_bl, ty_str_int, ty_str_str, ty_str_tup, ty_str_lst, ty_str_dic, ty_str_set, ty_tuple_non, ty_tuple_bl, ty_tuple_int, ty_tuple_str, ty_tuple_tup, ty_tuple_lst, ty_tuple_dic, ty_tuple_set, ty_list_non, ty_list_bl, ty_list_int, ty_list_str, ty_list_tup, ty_list_lst, ty_list_dic, ty_list_set, ty_dict_non, ty_dict_bl, ty_dict_int, ty_dict_str, ty_dict_tup, ty_dict_lst, ty_dict_dic, ty_dict_set, ty_set_non, ty_set_bl, ty_set_int, ty_set_str, ty_set_tup, ty_set_lst, ty_set_dic, ty_set_set, zip_l]
      refine wp_lcS (fun _ => none) (fun d hd2 => ?_) ?_
      · obtain ⟨x, hx, rfl⟩ := zip_self hd2
        simp only [wp_ret, wp_stuck, wp_bnd, kb_ap, wp_lift, wo_some, wo_none, wo_ite, wo_map, wp_ite, ks_nx, ks_rt, ks_bk, ks_ct, wp_seq, wp_pk, kpk_v, kpk_ow, wp_rd, krd_v, krd_ow, wp_mv, kmv_v, kmv_ow, wp_cst, wp_use2, k2_ap, wp_op2, wp_use1, k1_ap, wp_op1, wp_useN, kN_ap, wp_opN, rsv_d, rsv_pk, ksv_v, ksv_ow, rsvs_nil, rsvs_cons, kcons_ap, wp_osN, wp_osC, wp_lsN, wp_lsC, wp_fsN, wp_fsC, wp_opd, wp_frz, wp_tupM, wp_lstM, wp_tst, ktst_bl, wp_notB, wp_andB, wp_orB, wp_andV, wp_orV, wp_notV, wp_ifE, wp_drop, wp_retM, wp_retN, fr_v, fr_un, fr_ow, pl_v, pl_un, fr_pl, frO_ap, plO_ap, slot_f, slot_t, wp_put, wp_setM, wp_parM, puts_nil, puts_cons, kt_ap, wt_N, wts_nil, wts_cons, wt_T, wp_setT, wp_tg, wp_appU, kap_ap, isL_ap, kapp_ap, wp_appE, wp_setP, kset_ap, wp_setIx, wp_setQ, wp_useF, kcall_ap, kpb_ap, kpe_ap, wp_callM, kargs_ap, argsOf_nil, argsOf_cons, argOf_d, argOf_pk, karg_v, karg_ow, pks_nil, pks_d, pks_pk, kpks_ow, kpks_v, nodupN_nil, nodupN_one, nodupN_cons, pb_nil, pb_d, pb_dU, pb_pk, kpbk_ap, kr_rt, kr_nx, kre_ap, wp_runB, back_nil, back_v, back_ow, wp_forM, wp_srcV, wp_srcA, kfor_nx, kfor_ct, kfor_bk, kfor_rt, wp_forGo_nil, wb_nil, npO_ap, wb_cons, wp_lcM, klc_ap, wp_lcB, kel_ap, kco_t, kco_f, kco_d, List.getElem?_cons_zero, List.getElem?_cons_succ, List.set_cons_zero, List.set_cons_succ, List.length_cons, List.length_nil, List.length_append, List.replicate_succ, List.replicate_zero, List.cons_append, List.nil_append, if_true, if_false, ite_true, ite_false, Bool.false_eq_true, true_and, and_true, decide_eq_true_eq, Bool.not_true, Bool.not_false, Bool.not_eq_true', decide_eq_false_iff_not, reduceIte, reduceCtorEq, Nat.zero_add, Nat.reduceAdd, Nat.reduceSub, List.contains_nil, List.contains_cons, Bool.and_true, Bool.or_false, Bool.and_self, beq_self_eq_true, Nat.reduceBEq, Nat.reduceEqDiff, Nat.succ_eq_add_one, rst, List.getD_cons_zero, List.getD_cons_succ, isF, lenF, listF, tupleF, o_int, o_inti, o_addl, o_addt, o_mulb, absF, minF, maxF, sumF, seqOf, not_true_eq_false, not_false_eq_true, Bool.or_true, Bool.true_or, Bool.false_or, Bool.true_and, Bool.false_and, Bool.and_false, Option.map_some, Option.map_none, bne_f, bne_t, dec_not, fr_pl, nums_int, List.length_map, o_lt, o_le, o_gt, o_ge, o_add, o_sub, o_mul, o_div, o_mod, o_pow, o_rng1, o_rng2, at_0, at_1, at_2, at_3, at_4, at_5, at_nat, ix_0, ix_1, ix_2, ix_3, idx_l, idx_t, o_eq, o_eqb, small_nil, small_c1, small_c2, small_c3, small_c4, small_c5, small_c6, o_isi, ty_int_non, ty_int_bl, ty_int_int, ty_int_str, ty_int_tup, ty_int_lst, ty_int_dic, ty_int_set, ty_bool_non, ty_bool_bl, ty_bool_int, ty_bool_str, ty_bool_tup, ty_bool_lst, ty_bool_dic, ty_bool_set, ty_str_non, ty_str_bl, ty_str_int, ty_str_str, ty_str_tup, ty_str_lst, ty_str_dic, ty_str_set, ty_tuple_non, ty_tuple_bl, ty_tuple_int, ty_tuple_str, ty_tuple_tup, ty_tuple_lst, ty_tuple_dic, ty_tuple_set, ty_list_non, ty_list_bl, ty_list_int, ty_list_str, ty_list_tup, ty_list_lst, ty_list_dic, ty_list_set, ty_dict_non, ty_dict_bl, ty_dict_int, ty_dict_str, ty_dict_tup, ty_dict_lst, ty_dict_dic, ty_dict_set, ty_set_non, ty_set_bl, ty_set_int, ty_set_str, ty_set_tup, ty_set_lst, ty_set_dic, ty_set_set]
        exact ih x _ _ (plains_mem hd hx) (by omega) (by simp only [wp_ret, wp_stuck, wp_bnd, kb_ap, wp_lift, wo_some, wo_none, wo_ite, wo_map, wp_ite, ks_nx, ks_rt, ks_bk, ks_ct, wp_seq, wp_pk, kpk_v, kpk_ow, wp_rd, krd_v, krd_ow, wp_mv, kmv_v, kmv_ow, wp_cst, wp_use2, k2_ap, wp_op2, wp_use1, k1_ap, wp_op1, wp_useN, kN_ap, wp_opN, rsv_d, rsv_pk, ksv_v, ksv_ow, rsvs_nil, rsvs_cons, kcons_ap, wp_osN, wp_osC, wp_lsN, wp_lsC, wp_fsN, wp_fsC, wp_opd, wp_frz, wp_tupM, wp_lstM, wp_tst, ktst_bl, wp_notB, wp_andB, wp_orB, wp_andV, wp_orV, wp_notV, wp_ifE, wp_drop, wp_retM, wp_retN, fr_v, fr_un, fr_ow, pl_v, pl_un, fr_pl, frO_ap, plO_ap, slot_f, slot_t, wp_put, wp_setM, wp_parM, puts_nil, puts_cons, kt_ap, wt_N, wts_nil, wts_cons, wt_T, wp_setT, wp_tg, wp_appU, kap_ap, isL_ap, kapp_ap, wp_appE, wp_setP, kset_ap, wp_setIx, wp_setQ, wp_useF, kcall_ap, kpb_ap, kpe_ap, wp_callM, kargs_ap, argsOf_nil, argsOf_cons, argOf_d, argOf_pk, karg_v, karg_ow, pks_nil, pks_d, pks_pk, kpks_ow, kpks_v, nodupN_nil, nodupN_one, nodupN_cons, pb_nil, pb_d, pb_dU, pb_pk, kpbk_ap, kr_rt, kr_nx, kre_ap, wp_runB, back_nil, back_v, back_ow, wp_forM, wp_srcV, wp_srcA, kfor_nx, kfor_ct, kfor_bk, kfor_rt, wp_forGo_nil, wb_nil, npO_ap, wb_cons, wp_lcM, klc_ap, wp_lcB, kel_ap, kco_t, kco_f, kco_d, List.getElem?_cons_zero, List.getElem?_cons_succ, List.set_cons_zero, List.set_cons_succ, List.length_cons, List.length_nil, List.length_append, List.replicate_succ, List.replicate_zero, List.cons_append, List.nil_append, if_true, if_false, ite_true, ite_false, Bool.false_eq_true, true_and, and_true, decide_eq_true_eq, Bool.not_true, Bool.not_false, Bool.not_eq_true', decide_eq_false_iff_not, reduceIte, reduceCtorEq, Nat.zero_add, Nat.reduceAdd, Nat.reduceSub, List.contains_nil, List.contains_cons, Bool.and_true, Bool.or_false, Bool.and_self, beq_self_eq_true, Nat.reduceBEq, Nat.reduceEqDiff, Nat.succ_eq_add_one, rst, List.getD_cons_zero, List.getD_cons_succ, isF, lenF, listF, tupleF, o_int, o_inti, o_addl, o_addt, o_mulb, absF, minF, maxF, sumF, seqOf, not_true_eq_false, not_false_eq_true, Bool.or_true, Bool.true_or, Bool.false_or, Bool.true_and, Bool.false_and, Bool.and_false, Option.map_some, Option.map_none, bne_f, bne_t, dec_not, fr_pl, nums_int, List.length_map, o_lt, o_le, o_gt, o_ge, o_add, o_sub, o_mul, o_div, o_mod, o_pow, o_rng1, o_rng2, at_0, at_1, at_2, at_3, at_4, at_5, at_nat, ix_0, ix_1, ix_2, ix_3, idx_l, idx_t, o_eq, o_eqb, small_nil, small_c1, small_c2, small_c3, small_c4, small_c5, small_c6, o_isi, ty_int_non, ty_int_bl, ty_int_int, ty_int_str, ty_int_tup, ty_int_lst, ty_int_dic, ty_int_set, ty_bool_non, ty_bool_bl, ty_bool_int, ty_bool_str, ty_bool_tup, ty_bool_lst, ty_bool_dic, ty_bool_set, ty_str_non, ty_str_bl, ty_str_int, ty_str_str, ty_str_tup, ty_str_lst, ty_str_dic, ty_str_set, ty_tuple_non, ty_tuple_bl, ty_tuple_int, ty_tuple_str, ty_tuple_tup, ty_tuple_lst, ty_tuple_dic, ty_tuple_set, ty_list_non, ty_list_bl, ty_list_int, ty_list_str, ty_list_tup, ty_list_lst, ty_list_dic, ty_list_set, ty_dict_non, ty_dict_bl, ty_dict_int, ty_dict_str, ty_dict_tup, ty_dict_lst, ty_dict_dic, ty_dict_set, ty_set_non, ty_set_bl, ty_set_int, ty_set_str, ty_set_tup, ty_set_lst, ty_set_dic, ty_set_set])
      · simp only [wp_ret, wp_stuck, wp_bnd, kb_ap, wp_lift, wo_some, wo_none, wo_ite, wo_map, wp_ite, ks_nx, ks_rt, ks_bk, ks_ct, wp_seq, wp_pk, kpk_v, kpk_ow, wp_rd, krd_v, krd_ow, wp_mv, kmv_v, kmv_ow, wp_cst, wp_use2, k2_ap, wp_op2, wp_use1, k1_ap, wp_op1, wp_useN, kN_ap, wp_opN, rsv_d, rsv_pk, ksv_v, ksv_ow, rsvs_nil, rsvs_cons, kcons_ap, wp_osN, wp_osC, wp_lsN, wp_lsC, wp_fsN, wp_fsC, wp_opd, wp_frz, wp_tupM, wp_lstM, wp_tst, ktst_bl, wp_notB, wp_andB, wp_orB, wp_andV, wp_orV, wp_notV, wp_ifE, wp_drop, wp_retM, wp_retN, fr_v, fr_un, fr_ow, pl_v, pl_un, fr_pl, frO_ap, plO_ap, slot_f, slot_t, wp_put, wp_setM, wp_parM, puts_nil, puts_cons, kt_ap, wt_N, wts_nil, wts_cons, wt_T, wp_setT, wp_tg, wp_appU, kap_ap, isL_ap, kapp_ap, wp_appE, wp_setP, kset_ap, wp_setIx, wp_setQ, wp_useF, kcall_ap, kpb_ap, kpe_ap, wp_callM, kargs_ap, argsOf_nil, argsOf_cons, argOf_d, argOf_pk, karg_v, karg_ow, pks_nil, pks_d, pks_pk, kpks_ow, kpks_v, nodupN_nil, nodupN_one, nodupN_cons, pb_nil, pb_d, pb_dU, pb_pk, kpbk_ap, kr_rt, kr_nx, kre_ap, wp_runB, back_nil, back_v, back_ow, wp_forM, wp_srcV, wp_srcA, kfor_nx, kfor_ct, kfor_bk, kfor_rt, wp_forGo_nil, wb_nil, npO_ap, wb_cons, wp_lcM, klc_ap, wp_lcB, kel_ap, kco_t, kco_f, kco_d, List.getElem?_cons_zero, List.getElem?_cons_succ, List.set_cons_zero, List.set_cons_succ, List.length_cons, List.length_nil, List.length_append, List.replicate_succ, List.replicate_zero, List.cons_append, List.nil_append, if_true, if_false, ite_true, ite_false, Bool.false_eq_true, true_and, and_true, decide_eq_true_eq, Bool.not_true, Bool.not_false, Bool.not_eq_true', decide_eq_false_iff_not, reduceIte, reduceCtorEq, Nat.zero_add, Nat.reduceAdd, Nat.reduceSub, List.contains_nil, List.contains_cons, Bool.and_true, Bool.or_false, Bool.and_self, beq_self_eq_true, Nat.reduceBEq, Nat.reduceEqDiff, Nat.succ_eq_add_one, rst, List.getD_cons_zero, List.getD_cons_succ, isF, lenF, listF, tupleF, o_int, o_inti, o_addl, o_addt, o_mulb, absF, minF, maxF, sumF, seqOf, not_true_eq_false, not_false_eq_true, Bool.or_true, Bool.true_or, Bool.false_or, Bool.true_and, Bool.false_and, Bool.and_false, Option.map_some, Option.map_none, bne_f, bne_t, dec_not, fr_pl, nums_int, List.length_map, o_lt, o_le, o_gt, o_ge, o_add, o_sub, o_mul, o_div, o_mod, o_pow, o_rng1, o_rng2, at_0, at_1, at_2, at_3, at_4, at_5, at_nat, ix_0, ix_1, ix_2, ix_3, idx_l, idx_t, o_eq, o_eqb, small_nil, small_c1, small_c2, small_c3, small_c4, small_c5, small_c6, o_isi, ty_int_non, ty_int_bl, ty_int_int, ty_int_str, ty_int_tup, ty_int_lst, ty_int_dic, ty_int_set, ty_bool_non, ty_bool_bl, ty_bool_int, ty_bool_str, ty_bool_tup, ty_bool_lst, ty_bool_dic, ty_bool_set, ty_str_non, ty_str_bl, ty_str_int, ty_str_str, ty_str_tup, ty_str_lst, ty_str_dic, ty_str_set, ty_tuple_non, ty_tuple_bl, ty_tuple_int, ty_tuple_str, ty_tuple_tup, ty_tuple_lst, ty_tuple_dic, ty_tuple_set, ty_list_non, ty_list_bl, ty_list_int, ty_list_str, ty_list_tup, ty_list_lst, ty_list_dic, ty_list_set, ty_dict_non, ty_dict_bl, ty_dict_int, ty_dict_str, ty_dict_tup, ty_dict_lst, ty_dict_dic, ty_dict_set, ty_set_non, ty_set_bl, ty_set_int, ty_set_str, ty_set_tup, ty_set_lst, ty_set_dic, ty_set_set, List.filterMap_eq_nil_iff.mpr (fun a _ => rfl : ∀ a ∈ List.zipWith pairF ds ds, (fun _ => none : D → Option D) a = none), Int.natCast_zero]
        exact q
end G.C
namespace G.K01
open PySem PySem.Spec PyProof.Rows L2
def topS (i : Nat) : Stmt := PySem.Challenge.pw_grownanyturn_k01_factorials_and_mixtures.main.body.getD i (.Pass ⟨0, 0, 0, 0⟩)
def fuel : Nat := 1000000
abbrev s_factorial : Stmt := topS 1
abbrev N_factorial : List Str := ["number", "total", "part"]
theorem sc_factorial : FnScope N_factorial ["number"] (defScope s_factorial) := ⟨rfl, rfl, rfl, by decide +kernel, rfl, by decide +kernel, by decide +kernel⟩
abbrev s_choose : Stmt := topS 2
abbrev N_choose : List Str := ["number", "count", "total", "at"]
theorem sc_choose : FnScope N_choose ["number", "count"] (defScope s_choose) := ⟨rfl, rfl, rfl, by decide +kernel, rfl, by decide +kernel, by decide +kernel⟩
abbrev s_mixtures : Stmt := topS 3
abbrev N_mixtures : List Str := ["sizes", "total", "whole", "size"]
theorem sc_mixtures : FnScope N_mixtures ["sizes"] (defScope s_mixtures) := ⟨rfl, rfl, rfl, by decide +kernel, rfl, by decide +kernel, by decide +kernel⟩
abbrev s_rises_of_counts : Stmt := topS 4
abbrev N_rises_of_counts : List Str := ["sizes", "found", "whole", "size"]
theorem sc_rises_of_counts : FnScope N_rises_of_counts ["sizes"] (defScope s_rises_of_counts) := ⟨rfl, rfl, rfl, by decide +kernel, rfl, by decide +kernel, by decide +kernel⟩
abbrev s_mixtures_at : Stmt := topS 5
abbrev N_mixtures_at : List Str := ["size", "other", "place", "before"]
theorem sc_mixtures_at : FnScope N_mixtures_at ["size", "other", "place", "before"] (defScope s_mixtures_at) := ⟨rfl, rfl, rfl, by decide +kernel, rfl, by decide +kernel, by decide +kernel⟩
abbrev s_power : Stmt := topS 6
abbrev N_power : List Str := ["base", "exponent", "total", "turn"]
theorem sc_power : FnScope N_power ["base", "exponent"] (defScope s_power) := ⟨rfl, rfl, rfl, by decide +kernel, rfl, by decide +kernel, by decide +kernel⟩
abbrev s__law_box : Stmt := topS 8
abbrev N__law_box : List Str := ["script"]
theorem sc__law_box : FnScope N__law_box ["script"] (defScope s__law_box) := ⟨rfl, rfl, rfl, by decide +kernel, rfl, by decide +kernel, by decide +kernel⟩
abbrev s__law_draw : Stmt := topS 9
abbrev N__law_draw : List Str := ["box", "limit", "at", "cell", "mixed", "digit"]
theorem sc__law_draw : FnScope N__law_draw ["box", "limit"] (defScope s__law_draw) := ⟨rfl, rfl, rfl, by decide +kernel, rfl, by decide +kernel, by decide +kernel⟩
abbrev s__law_same : Stmt := topS 10
abbrev N__law_same : List Str := ["one", "two", "a", "b"]
theorem sc__law_same : FnScope N__law_same ["one", "two"] (defScope s__law_same) := ⟨rfl, rfl, rfl, by decide +kernel, rfl, by decide +kernel, by decide +kernel⟩
abbrev s__law_rows : Stmt := topS 11
abbrev N__law_rows : List Str := ["size", "other", "rows", "turn", "longer", "row"]
theorem sc__law_rows : FnScope N__law_rows ["size", "other"] (defScope s__law_rows) := ⟨rfl, rfl, rfl, by decide +kernel, rfl, by decide +kernel, by decide +kernel⟩
abbrev s_law : Stmt := topS 12
abbrev N_law : List Str := ["script", "box", "number", "product", "part", "line", "turn", "a", "b", "count", "sizes", "whole", "due", "sums", "size", "other", "rows", "place", "before", "fits", "row", "at", "k", "base", "exponent"]
theorem sc_law : FnScope N_law ["script"] (defScope s_law) := ⟨rfl, rfl, rfl, by decide +kernel, rfl, by decide +kernel, by decide +kernel⟩
def b_factorial : R Fl := (seq (setM 1 (cst (.int 1)))
  (seq (forM (srcA rng2 (lsC (frz (cst (.int 2))) (lsC (frz (op2 addF (pk 0) (opd (cst (.int 1))))) lsN))) (tgN 2) (setM 1 (op2 mulF (pk 1) (pk 2))))
  (retM (mv 1))))
def F_factorial : R (D × Bool) := runB 3 b_factorial
def b_choose : R Fl := (seq (ifE (orB (tst (op2 ltF (pk 1) (opd (cst (.int 0))))) (tst (op2 gtF (pk 1) (pk 0)))) (retM (cst (.int 0))) (ret .nx))
  (seq (setM 2 (cst (.int 1)))
  (seq (forM (srcA rng1 (lsC (frz (rd 1)) lsN)) (tgN 3) (setM 2 (op2 divF (opd (op2 mulF (pk 2) (opd (op2 subF (pk 0) (pk 3))))) (opd (op2 addF (pk 3) (opd (cst (.int 1))))))))
  (retM (mv 2)))))
def F_choose : R (D × Bool) := runB 4 b_choose
def b_mixtures : R Fl := (seq (setM 1 (cst (.int 1)))
  (seq (setM 2 (cst (.int 0)))
  (seq (forM (srcV (frz (rd 0))) (tgN 3) (seq (setM 2 (op2 addF (pk 2) (pk 3)))
  (setM 1 (op2 mulF (pk 1) (opd (callM F_choose (osC (opd (rd 2)) (osC (opd (rd 3)) osN))))))))
  (retM (mv 1)))))
def F_mixtures : R (D × Bool) := runB 4 b_mixtures
def b_rises_of_counts : R Fl := (seq (setM 1 (lstM lsN))
  (seq (setM 2 (cst (.int 0)))
  (seq (forM (srcV (frz (rd 0))) (tgN 3) (seq (setM 2 (op2 addF (pk 2) (pk 3)))
  (drop (appE 1 (lsC (frz (rd 2)) lsN)))))
  (retM (mv 1)))))
def F_rises_of_counts : R (D × Bool) := runB 4 b_rises_of_counts
def b_mixtures_at : R Fl := (retM (op2 mulF (opd (callM F_choose (osC (opd (op2 addF (opd (op2 subF (pk 2) (opd (cst (.int 1))))) (pk 3))) (osC (opd (rd 3)) osN)))) (opd (callM F_choose (osC (opd (op2 subF (opd (op2 addF (opd (op2 subF (pk 0) (pk 2))) (pk 1))) (pk 3))) (osC (opd (op2 subF (pk 1) (pk 3))) osN))))))
def F_mixtures_at : R (D × Bool) := runB 4 b_mixtures_at
def b_power : R Fl := (seq (setM 2 (cst (.int 1)))
  (seq (forM (srcA rng1 (lsC (frz (rd 1)) lsN)) (tgN 3) (setM 2 (op2 mulF (pk 2) (pk 0))))
  (retM (mv 2))))
def F_power : R (D × Bool) := runB 4 b_power
def b__law_box : R Fl := (retM (lstM (lsC (frz (cst (.int 0))) (lsC (frz (cst (.int 0))) (lsC (frz (opN listF (osC (pk 0) osN))) (lsC (frz (cst (.int 1))) lsN))))))
def F__law_box : R (D × Bool) := runB 1 b__law_box
def b__law_draw : R Fl := (seq (ifE (tst (op2 ltF (opd (op2 idxF (pk 0) (opd (cst (.int 0))))) (pk 1))) (seq (setM 2 (op2 idxF (pk 0) (opd (cst (.int 1)))))
  (seq (setIx 0 (opd (cst (.int 1))) (frz (op2 addF (pk 2) (opd (cst (.int 1))))))
  (seq (setM 3 (cst (.int 0)))
  (seq (ifE (tst (op2 ltF (pk 2) (opd (opN lenF (osC (opd (op2 idxF (pk 0) (opd (cst (.int 2))))) osN))))) (setM 3 (op2 idxF (opd (op2 idxF (pk 0) (opd (cst (.int 2))))) (pk 2))) (ret .nx))
  (seq (ifE (tst (op2 ltF (pk 3) (opd (cst (.int 0))))) (setM 3 (op2 subF (opd (op2 subF (opd (cst (.int 0))) (opd (cst (.int 1))))) (pk 3))) (ret .nx))
  (ifE (tst (op2 geF (pk 3) (opd (op2 powF (opd (cst (.int 10))) (opd (cst (.int 18))))))) (setIx 0 (opd (cst (.int 0))) (frz (rd 3))) (seq (setIx 0 (opd (cst (.int 3))) (frz (op2 modF (opd (opN intF (osC (opd (op2 mulF (opd (op2 addF (opd (op2 addF (opd (op2 addF (opd (op2 idxF (pk 0) (opd (cst (.int 3))))) (opd (op2 modF (opd (opN intF (osC (pk 3) osN))) (opd (cst (.int 2147483629))))))) (pk 2))) (opd (cst (.int 1))))) (opd (cst (.int 48271))))) osN))) (opd (cst (.int 2147483647))))))
  (seq (setM 4 (op2 modF (opd (opN intF (osC (opd (op2 addF (opd (op2 mulF (opd (op2 idxF (pk 0) (opd (cst (.int 3))))) (opd (cst (.int 69621))))) (opd (cst (.int 11))))) osN))) (opd (cst (.int 2147483629)))))
  (setIx 0 (opd (cst (.int 0))) (frz (op2 addF (opd (op2 mulF (pk 4) (opd (cst (.int 2147483647))))) (opd (op2 modF (opd (opN intF (osC (opd (op2 addF (opd (op2 mulF (pk 4) (opd (cst (.int 30011))))) (opd (op2 idxF (pk 0) (opd (cst (.int 3))))))) osN))) (opd (cst (.int 2147483587)))))))))))))))) (ret .nx))
  (seq (setM 5 (op2 modF (opd (opN intF (osC (opd (op2 idxF (pk 0) (opd (cst (.int 0))))) osN))) (pk 1)))
  (seq (setIx 0 (opd (cst (.int 0))) (frz (op2 divF (opd (op2 idxF (pk 0) (opd (cst (.int 0))))) (pk 1))))
  (retM (mv 5)))))
def F__law_draw : R (D × Bool) := runB 6 b__law_draw
def b__law_same (F__law_same : R (D × Bool)) : R Fl := (seq (ifE (tst (isiM (fun d => isTy "tuple" d || isTy "list" d) (pk 0))) (seq (ifE (orB (tst (op2 (eqF true) (opd (isiM (isTy "tuple") (pk 0))) (opd (isiM (isTy "tuple") (pk 1))))) (orB (tst (op2 (eqF true) (opd (isiM (isTy "list") (pk 0))) (opd (isiM (isTy "list") (pk 1))))) (tst (op2 (eqF true) (opd (opN lenF (osC (pk 0) osN))) (opd (opN lenF (osC (pk 1) osN))))))) (retM (cst (.bl false))) (ret .nx))
  (retM (op2 (eqF false) (opd (opN lenF (osC (opd (lcM [2, 3] (srcA zipF (lsC (frz (rd 0)) (lsC (frz (rd 1)) lsN))) (tgT 2 (tgCons (tgN 2) (tgCons (tgN 3) tgNil))) (notB (tst (callM F__law_same (osC (opd (rd 2)) (osC (opd (rd 3)) osN))))) (frz (cst (.int 1))))) osN))) (opd (cst (.int 0)))))) (ret .nx))
  (retM (andV (op2 (eqF false) (opd (isiM (isTy "bool") (pk 0))) (opd (isiM (isTy "bool") (pk 1)))) (op2 (eqF false) (pk 0) (pk 1)))))
def F__law_same : Nat → R (D × Bool)
  | 0 => stuck
  | n + 1 => runB 4 (b__law_same (F__law_same n))
def b__law_rows : R Fl := (seq (setM 2 (lstM (lsC (frz (tupM lsN)) lsN)))
  (seq (forM (srcA rng1 (lsC (frz (op2 addF (pk 0) (pk 1))) lsN)) (tgN 3) (seq (setM 4 (lstM lsN))
  (seq (forM (srcV (frz (rd 2))) (tgN 5) (setM 4 (op2 addF (opd (op2 addF (pk 4) (opd (op2 mulF (opd (lstM (lsC (frz (op2 addF (pk 5) (opd (tupM (lsC (frz (cst (.int 1))) lsN))))) lsN))) (opd (opN intF (osC (opd (op2 ltF (opd (opN sumF (osC (pk 5) osN))) (pk 0))) osN))))))) (opd (op2 mulF (opd (lstM (lsC (frz (op2 addF (pk 5) (opd (tupM (lsC (frz (cst (.int 0))) lsN))))) lsN))) (opd (opN intF (osC (opd (op2 ltF (opd (op2 subF (opd (opN lenF (osC (pk 5) osN))) (opd (opN sumF (osC (pk 5) osN))))) (pk 1))) osN))))))))
  (setM 2 (rd 4)))))
  (retM (mv 2))))
def F__law_rows : R (D × Bool) := runB 6 b__law_rows
def b_law : R Fl := (seq (setM 1 (callM F__law_box (osC (opd (rd 0)) osN)))
  (seq (parM [2, 3] (fsC (callM F__law_draw (osC (pk 1) (osC (opd (cst (.int 61))) osN))) (fsC (cst (.int 1)) fsN)))
  (seq (forM (srcA rng1 (lsC (frz (rd 2)) lsN)) (tgN 4) (setM 3 (op2 mulF (pk 3) (opd (op2 addF (pk 4) (opd (cst (.int 1))))))))
  (seq (ifE (orB (notB (tst (callM (F__law_same 70) (osC (opd (callM F_factorial (osC (opd (rd 2)) osN))) (osC (opd (rd 3)) osN))))) (notB (tst (callM (F__law_same 70) (osC (opd (callM F_factorial (osC (opd (op2 addF (pk 2) (opd (cst (.int 1))))) osN))) (osC (opd (op2 mulF (pk 3) (opd (op2 addF (pk 2) (opd (cst (.int 1))))))) osN)))))) (retM (cst (.bl false))) (ret .nx))
  (seq (setM 5 (lstM (lsC (frz (cst (.int 1))) lsN)))
  (seq (forM (srcA rng1 (lsC (frz (rd 2)) lsN)) (tgN 6) (setM 5 (lcM [7, 8] (srcA zipF (lsC (frz (op2 addF (opd (lstM (lsC (frz (cst (.int 0))) lsN))) (pk 5))) (lsC (frz (op2 addF (pk 5) (opd (lstM (lsC (frz (cst (.int 0))) lsN))))) lsN))) (tgT 2 (tgCons (tgN 7) (tgCons (tgN 8) tgNil))) (ret true) (frz (op2 addF (pk 7) (pk 8))))))
  (seq (forM (srcA rng1 (lsC (frz (op2 addF (pk 2) (opd (cst (.int 1))))) lsN)) (tgN 9) (ifE (notB (tst (callM (F__law_same 70) (osC (opd (callM F_choose (osC (opd (rd 2)) (osC (opd (rd 9)) osN)))) (osC (opd (op2 idxF (pk 5) (pk 9))) osN))))) (retM (cst (.bl false))) (ret .nx)))
  (seq (ifE (orB (tst (op2 (eqF true) (opd (callM F_choose (osC (opd (rd 2)) (osC (opd (op2 subF (opd (cst (.int 0))) (opd (cst (.int 1))))) osN)))) (opd (cst (.int 0))))) (orB (tst (op2 (eqF true) (opd (callM F_choose (osC (opd (rd 2)) (osC (opd (op2 addF (pk 2) (opd (cst (.int 1))))) osN)))) (opd (cst (.int 0))))) (tst (op2 (eqF true) (opd (callM F_choose (osC (opd (rd 2)) (osC (opd (op2 addF (pk 2) (opd (cst (.int 40))))) osN)))) (opd (cst (.int 0))))))) (retM (cst (.bl false))) (ret .nx))
  (seq (parM [10, 11, 12, 13] (fsC (lcM [6] (srcA rng1 (lsC (frz (callM F__law_draw (osC (pk 1) (osC (opd (cst (.int 6))) osN)))) lsN)) (tgN 6) (ret true) (frz (callM F__law_draw (osC (pk 1) (osC (opd (cst (.int 9))) osN))))) (fsC (cst (.int 0)) (fsC (cst (.int 1)) (fsC (lstM lsN) fsN)))))
  (seq (forM (srcV (frz (rd 10))) (tgN 14) (seq (setM 11 (op2 addF (pk 11) (pk 14)))
  (seq (drop (appE 13 (lsC (frz (rd 11)) lsN)))
  (forM (srcA rng1 (lsC (frz (rd 14)) lsN)) (tgN 4) (setM 12 (op2 divF (opd (op2 mulF (pk 12) (opd (op2 subF (pk 11) (pk 4))))) (opd (op2 addF (pk 4) (opd (cst (.int 1)))))))))))
  (seq (ifE (orB (notB (tst (callM (F__law_same 70) (osC (opd (callM F_mixtures (osC (opd (opN listF (osC (pk 10) osN))) osN))) (osC (opd (rd 12)) osN))))) (notB (tst (callM (F__law_same 70) (osC (opd (callM F_rises_of_counts (osC (opd (opN listF (osC (pk 10) osN))) osN))) (osC (opd (rd 13)) osN)))))) (retM (cst (.bl false))) (ret .nx))
  (seq (parM [14, 15] (fsC (op2 addF (opd (cst (.int 1))) (opd (callM F__law_draw (osC (pk 1) (osC (opd (cst (.int 5))) osN))))) (fsC (callM F__law_draw (osC (pk 1) (osC (opd (cst (.int 6))) osN))) fsN)))
  (seq (setM 16 (callM F__law_rows (osC (opd (rd 14)) (osC (opd (rd 15)) osN))))
  (seq (ifE (orB (tst (op2 (eqF true) (opd (callM F_mixtures (osC (opd (lstM (lsC (frz (rd 14)) (lsC (frz (rd 15)) lsN)))) osN))) (opd (opN lenF (osC (pk 16) osN))))) (tst (op2 (eqF true) (opd (callM F_mixtures (osC (opd (lstM (lsC (frz (rd 15)) (lsC (frz (rd 14)) lsN)))) osN))) (opd (opN lenF (osC (pk 16) osN)))))) (retM (cst (.bl false))) (ret .nx))
  (seq (forM (srcA rng2 (lsC (frz (cst (.int 1))) (lsC (frz (op2 addF (pk 14) (opd (cst (.int 1))))) lsN))) (tgN 17) (forM (srcA rng1 (lsC (frz (op2 addF (pk 15) (opd (cst (.int 1))))) lsN)) (tgN 18) (seq (setM 19 (cst (.int 0)))
  (seq (forM (srcV (frz (rd 16))) (tgN 20) (seq (setM 21 (op2 idxF (opd (lcM [22] (srcA rng1 (lsC (frz (opN lenF (osC (pk 20) osN))) lsN)) (tgN 22) (tst (op2 (eqF false) (opd (op2 idxF (pk 20) (pk 22))) (opd (cst (.int 1))))) (frz (rd 22)))) (opd (op2 subF (pk 17) (opd (cst (.int 1)))))))
  (setM 19 (op2 addF (pk 19) (opd (opN intF (osC (opd (op2 (eqF false) (opd (op2 addF (opd (op2 subF (pk 21) (pk 17))) (opd (cst (.int 1))))) (pk 18))) osN)))))))
  (ifE (notB (tst (callM (F__law_same 70) (osC (opd (callM F_mixtures_at (osC (opd (rd 14)) (osC (opd (rd 15)) (osC (opd (rd 17)) (osC (opd (rd 18)) osN)))))) (osC (opd (rd 19)) osN))))) (retM (cst (.bl false))) (ret .nx))))))
  (seq (parM [23, 24, 3] (fsC (callM F__law_draw (osC (pk 1) (osC (opd (cst (.int 12))) osN))) (fsC (callM F__law_draw (osC (pk 1) (osC (opd (cst (.int 20))) osN))) (fsC (cst (.int 1)) fsN))))
  (seq (forM (srcA rng1 (lsC (frz (rd 24)) lsN)) (tgN 6) (setM 3 (op2 mulF (pk 3) (pk 23))))
  (retM (andV (callM (F__law_same 70) (osC (opd (callM F_power (osC (opd (rd 23)) (osC (opd (rd 24)) osN)))) (osC (opd (rd 3)) osN))) (andV (op2 (eqF false) (opd (callM F_mixtures (osC (opd (lstM lsN)) osN))) (opd (cst (.int 1)))) (andV (op2 (eqF false) (opd (callM F_factorial (osC (opd (cst (.int 0))) osN))) (opd (cst (.int 1)))) (andV (op2 (eqF false) (opd (callM F_rises_of_counts (osC (opd (lstM lsN)) osN))) (opd (lstM lsN))) (op2 (eqF false) (opd (callM F_choose (osC (opd (cst (.int 0))) (osC (opd (cst (.int 0))) osN)))) (opd (cst (.int 1))))))))))))))))))))))))))
def F_law : R (D × Bool) := runB 25 b_law
end G.K01
namespace G.K01
open PySem PySem.Spec PyProof.Rows L2
structure Top (mg : Str → Option Value) : Prop where
  b_bool : mg "bool" = none
  b_int : mg "int" = none
  b_isinstance : mg "isinstance" = none
  b_len : mg "len" = none
  b_list : mg "list" = none
  b_range : mg "range" = none
  b_sum : mg "sum" = none
  b_tuple : mg "tuple" = none
  b_zip : mg "zip" = none
section
variable {P : Program} {w : World} {K : PySem.W.Frag} {mg : Str → Option Value} {base : Heap} {EX : EXT}
theorem ok_factorial (T : Top mg)  {f : Addr} {fd : FuncData} (F : Fun K "factorial" "factorial" s_factorial f fd) : FnOk P w K mg base (L2.CX P w) 1 f fd ["number"] (spF K EX 1 F_factorial) :=
  fn_body (N := N_factorial) (k := 0) (body := b_factorial) F sc_factorial (fun _ _ _ _ h => h) fun cdv A outer s H E hr =>
  (sss_cons (ss_set (i := 1) sc_factorial.nd rfl (by first | exact Or.inl rfl | exact Or.inr rfl) se_int)
  (sss_cons (ss_for (is := [2]) (passes_of rfl) rfl (si_range2 (by rfl) T.b_range (sl_cons (sd_of se_int) (sl_cons (sd_of (se_bin opr_add f2_add (so_pk (i := 0) rfl (by first | exact Or.inl rfl | exact Or.inr (Or.inl rfl) | exact Or.inr (Or.inr rfl))) (so_of se_int))) sl_nil))) (sg_name (i := 2) sc_factorial.nd rfl (by first | exact Or.inl rfl | exact Or.inr rfl) (by decide)) (sss_one (ss_set (i := 1) sc_factorial.nd rfl (by first | exact Or.inl rfl | exact Or.inr rfl) (se_bin opr_mul f2_mul (so_pk (i := 1) rfl (by first | exact Or.inl rfl | exact Or.inr (Or.inl rfl) | exact Or.inr (Or.inr rfl))) (so_pk (i := 2) rfl (by first | exact Or.inl rfl | exact Or.inr (Or.inl rfl) | exact Or.inr (Or.inr rfl)))))))
  (sss_one (ss_ret (se_mv (i := 1) rfl (by first | exact Or.inl rfl | exact Or.inr (Or.inl rfl) | exact Or.inr (Or.inr rfl)))))))
theorem at_factorial (T : Top mg)  (t : FT K mg "factorial" s_factorial ["number"]) : FnAt P w K mg base EX "factorial" 1 1 F_factorial := t.at fun F => ok_factorial T  F
theorem ok_choose (T : Top mg)  {f : Addr} {fd : FuncData} (F : Fun K "choose" "choose" s_choose f fd) : FnOk P w K mg base (L2.CX P w) 1 f fd ["number", "count"] (spF K EX 2 F_choose) :=
  fn_body (N := N_choose) (k := 0) (body := b_choose) F sc_choose (fun _ _ _ _ h => h) fun cdv A outer s H E hr =>
  (sss_cons (ss_if (SW.st (sw_or (st_cmp op_lt f2_cmp (nomark _) (so_pk (i := 1) rfl (by first | exact Or.inl rfl | exact Or.inr (Or.inl rfl) | exact Or.inr (Or.inr rfl))) (so_of se_int)) (sw_or1 (st_cmp op_gt f2_cmp (nomark _) (so_pk (i := 1) rfl (by first | exact Or.inl rfl | exact Or.inr (Or.inl rfl) | exact Or.inr (Or.inr rfl))) (so_pk (i := 0) rfl (by first | exact Or.inl rfl | exact Or.inr (Or.inl rfl) | exact Or.inr (Or.inr rfl)))))))
  (sss_one (ss_ret se_int))
  sss_nil)
  (sss_cons (ss_set (i := 2) sc_choose.nd rfl (by first | exact Or.inl rfl | exact Or.inr rfl) se_int)
  (sss_cons (ss_for (is := [3]) (passes_of rfl) rfl (si_range1 (by rfl) T.b_range (sl_cons (sd_of (se_rd (i := 1) rfl (by first | exact Or.inl rfl | exact Or.inr (Or.inl rfl) | exact Or.inr (Or.inr rfl)))) sl_nil)) (sg_name (i := 3) sc_choose.nd rfl (by first | exact Or.inl rfl | exact Or.inr rfl) (by decide)) (sss_one (ss_set (i := 2) sc_choose.nd rfl (by first | exact Or.inl rfl | exact Or.inr rfl) (se_bin op_fdivW f2_div (so_of (se_bin opr_mul f2_mul (so_pk (i := 2) rfl (by first | exact Or.inl rfl | exact Or.inr (Or.inl rfl) | exact Or.inr (Or.inr rfl))) (so_of (se_bin op_sub f2_sub (so_pk (i := 0) rfl (by first | exact Or.inl rfl | exact Or.inr (Or.inl rfl) | exact Or.inr (Or.inr rfl))) (so_pk (i := 3) rfl (by first | exact Or.inl rfl | exact Or.inr (Or.inl rfl) | exact Or.inr (Or.inr rfl))))))) (so_of (se_bin opr_add f2_add (so_pk (i := 3) rfl (by first | exact Or.inl rfl | exact Or.inr (Or.inl rfl) | exact Or.inr (Or.inr rfl))) (so_of se_int)))))))
  (sss_one (ss_ret (se_mv (i := 2) rfl (by first | exact Or.inl rfl | exact Or.inr (Or.inl rfl) | exact Or.inr (Or.inr rfl))))))))
theorem at_choose (T : Top mg)  (t : FT K mg "choose" s_choose ["number", "count"]) : FnAt P w K mg base EX "choose" 1 2 F_choose := t.at fun F => ok_choose T  F
theorem ok_mixtures (T : Top mg) (A_choose : FnAt P w K mg base EX "choose" 1 2 F_choose) {f : Addr} {fd : FuncData} (F : Fun K "mixtures" "mixtures" s_mixtures f fd) : FnOk P w K mg base (L2.CX P w) 2 f fd ["sizes"] (spF K EX 1 F_mixtures) :=
  fn_body (N := N_mixtures) (k := 1) (body := b_mixtures) F sc_mixtures (fun _ _ _ _ h => h) fun cdv A outer s H E hr =>
  (sss_cons (ss_set (i := 1) sc_mixtures.nd rfl (by first | exact Or.inl rfl | exact Or.inr rfl) se_int)
  (sss_cons (ss_set (i := 2) sc_mixtures.nd rfl (by first | exact Or.inl rfl | exact Or.inr rfl) se_int)
  (sss_cons (ss_for (is := [3]) (passes_of rfl) rfl (si_seq (sd_of (se_rd (i := 0) rfl (by first | exact Or.inl rfl | exact Or.inr (Or.inl rfl) | exact Or.inr (Or.inr rfl))))) (sg_name (i := 3) sc_mixtures.nd rfl (by first | exact Or.inl rfl | exact Or.inr rfl) (by decide)) (sss_cons (ss_set (i := 2) sc_mixtures.nd rfl (by first | exact Or.inl rfl | exact Or.inr rfl) (se_bin opr_add f2_add (so_pk (i := 2) rfl (by first | exact Or.inl rfl | exact Or.inr (Or.inl rfl) | exact Or.inr (Or.inr rfl))) (so_pk (i := 3) rfl (by first | exact Or.inl rfl | exact Or.inr (Or.inl rfl) | exact Or.inr (Or.inr rfl)))))
  (sss_one (ss_set (i := 1) sc_mixtures.nd rfl (by first | exact Or.inl rfl | exact Or.inr rfl) (se_bin opr_mul f2_mul (so_pk (i := 1) rfl (by first | exact Or.inl rfl | exact Or.inr (Or.inl rfl) | exact Or.inr (Or.inr rfl))) (so_of (se_callF A_choose (takes_of rfl rfl rfl rfl) (hr.mono (by decide)) (by rfl) (sos_cons (so_of (se_rd (i := 2) rfl (by first | exact Or.inl rfl | exact Or.inr (Or.inl rfl) | exact Or.inr (Or.inr rfl)))) (sos_cons (so_of (se_rd (i := 3) rfl (by first | exact Or.inl rfl | exact Or.inr (Or.inl rfl) | exact Or.inr (Or.inr rfl)))) sos_nil)) (.cons (.cons OsLen.nil)))))))))
  (sss_one (ss_ret (se_mv (i := 1) rfl (by first | exact Or.inl rfl | exact Or.inr (Or.inl rfl) | exact Or.inr (Or.inr rfl))))))))
theorem at_mixtures (T : Top mg) (A_choose : FnAt P w K mg base EX "choose" 1 2 F_choose) (t : FT K mg "mixtures" s_mixtures ["sizes"]) : FnAt P w K mg base EX "mixtures" 2 1 F_mixtures := t.at fun F => ok_mixtures T A_choose F
theorem ok_rises_of_counts (T : Top mg)  {f : Addr} {fd : FuncData} (F : Fun K "rises_of_counts" "rises_of_counts" s_rises_of_counts f fd) : FnOk P w K mg base (L2.CX P w) 1 f fd ["sizes"] (spF K EX 1 F_rises_of_counts) :=
  fn_body (N := N_rises_of_counts) (k := 0) (body := b_rises_of_counts) F sc_rises_of_counts (fun _ _ _ _ h => h) fun cdv A outer s H E hr =>
  (sss_cons (ss_set (i := 1) sc_rises_of_counts.nd rfl (by first | exact Or.inl rfl | exact Or.inr rfl) (se_lst sl_nil))
  (sss_cons (ss_set (i := 2) sc_rises_of_counts.nd rfl (by first | exact Or.inl rfl | exact Or.inr rfl) se_int)
  (sss_cons (ss_for (is := [3]) (passes_of rfl) rfl (si_seq (sd_of (se_rd (i := 0) rfl (by first | exact Or.inl rfl | exact Or.inr (Or.inl rfl) | exact Or.inr (Or.inr rfl))))) (sg_name (i := 3) sc_rises_of_counts.nd rfl (by first | exact Or.inl rfl | exact Or.inr rfl) (by decide)) (sss_cons (ss_set (i := 2) sc_rises_of_counts.nd rfl (by first | exact Or.inl rfl | exact Or.inr rfl) (se_bin opr_add f2_add (so_pk (i := 2) rfl (by first | exact Or.inl rfl | exact Or.inr (Or.inl rfl) | exact Or.inr (Or.inr rfl))) (so_pk (i := 3) rfl (by first | exact Or.inl rfl | exact Or.inr (Or.inl rfl) | exact Or.inr (Or.inr rfl)))))
  (sss_one (ss_expr (se_append (i := 1) rfl (by first | exact Or.inl rfl | exact Or.inr (Or.inl rfl) | exact Or.inr (Or.inr rfl)) (sl_cons (sd_of (se_rd (i := 2) rfl (by first | exact Or.inl rfl | exact Or.inr (Or.inl rfl) | exact Or.inr (Or.inr rfl)))) sl_nil))))))
  (sss_one (ss_ret (se_mv (i := 1) rfl (by first | exact Or.inl rfl | exact Or.inr (Or.inl rfl) | exact Or.inr (Or.inr rfl))))))))
theorem at_rises_of_counts (T : Top mg)  (t : FT K mg "rises_of_counts" s_rises_of_counts ["sizes"]) : FnAt P w K mg base EX "rises_of_counts" 1 1 F_rises_of_counts := t.at fun F => ok_rises_of_counts T  F
theorem ok_mixtures_at (T : Top mg) (A_choose : FnAt P w K mg base EX "choose" 1 2 F_choose) {f : Addr} {fd : FuncData} (F : Fun K "mixtures_at" "mixtures_at" s_mixtures_at f fd) : FnOk P w K mg base (L2.CX P w) 2 f fd ["size", "other", "place", "before"] (spF K EX 4 F_mixtures_at) :=
  fn_body (N := N_mixtures_at) (k := 1) (body := b_mixtures_at) F sc_mixtures_at (fun _ _ _ _ h => h) fun cdv A outer s H E hr =>
  (sss_one (ss_ret (se_bin opr_mul f2_mul (so_of (se_callF A_choose (takes_of rfl rfl rfl rfl) (hr.mono (by decide)) (by rfl) (sos_cons (so_of (se_bin opr_add f2_add (so_of (se_bin op_sub f2_sub (so_pk (i := 2) rfl (by first | exact Or.inl rfl | exact Or.inr (Or.inl rfl) | exact Or.inr (Or.inr rfl))) (so_of se_int))) (so_pk (i := 3) rfl (by first | exact Or.inl rfl | exact Or.inr (Or.inl rfl) | exact Or.inr (Or.inr rfl))))) (sos_cons (so_of (se_rd (i := 3) rfl (by first | exact Or.inl rfl | exact Or.inr (Or.inl rfl) | exact Or.inr (Or.inr rfl)))) sos_nil)) (.cons (.cons OsLen.nil)))) (so_of (se_callF A_choose (takes_of rfl rfl rfl rfl) (hr.mono (by decide)) (by rfl) (sos_cons (so_of (se_bin op_sub f2_sub (so_of (se_bin opr_add f2_add (so_of (se_bin op_sub f2_sub (so_pk (i := 0) rfl (by first | exact Or.inl rfl | exact Or.inr (Or.inl rfl) | exact Or.inr (Or.inr rfl))) (so_pk (i := 2) rfl (by first | exact Or.inl rfl | exact Or.inr (Or.inl rfl) | exact Or.inr (Or.inr rfl))))) (so_pk (i := 1) rfl (by first | exact Or.inl rfl | exact Or.inr (Or.inl rfl) | exact Or.inr (Or.inr rfl))))) (so_pk (i := 3) rfl (by first | exact Or.inl rfl | exact Or.inr (Or.inl rfl) | exact Or.inr (Or.inr rfl))))) (sos_cons (so_of (se_bin op_sub f2_sub (so_pk (i := 1) rfl (by first | exact Or.inl rfl | exact Or.inr (Or.inl rfl) | exact Or.inr (Or.inr rfl))) (so_pk (i := 3) rfl (by first | exact Or.inl rfl | exact Or.inr (Or.inl rfl) | exact Or.inr (Or.inr rfl))))) sos_nil)) (.cons (.cons OsLen.nil)))))))
theorem at_mixtures_at (T : Top mg) (A_choose : FnAt P w K mg base EX "choose" 1 2 F_choose) (t : FT K mg "mixtures_at" s_mixtures_at ["size", "other", "place", "before"]) : FnAt P w K mg base EX "mixtures_at" 2 4 F_mixtures_at := t.at fun F => ok_mixtures_at T A_choose F
theorem ok_power (T : Top mg)  {f : Addr} {fd : FuncData} (F : Fun K "power" "power" s_power f fd) : FnOk P w K mg base (L2.CX P w) 1 f fd ["base", "exponent"] (spF K EX 2 F_power) :=
  fn_body (N := N_power) (k := 0) (body := b_power) F sc_power (fun _ _ _ _ h => h) fun cdv A outer s H E hr =>
  (sss_cons (ss_set (i := 2) sc_power.nd rfl (by first | exact Or.inl rfl | exact Or.inr rfl) se_int)
  (sss_cons (ss_for (is := [3]) (passes_of rfl) rfl (si_range1 (by rfl) T.b_range (sl_cons (sd_of (se_rd (i := 1) rfl (by first | exact Or.inl rfl | exact Or.inr (Or.inl rfl) | exact Or.inr (Or.inr rfl)))) sl_nil)) (sg_name (i := 3) sc_power.nd rfl (by first | exact Or.inl rfl | exact Or.inr rfl) (by decide)) (sss_one (ss_set (i := 2) sc_power.nd rfl (by first | exact Or.inl rfl | exact Or.inr rfl) (se_bin opr_mul f2_mul (so_pk (i := 2) rfl (by first | exact Or.inl rfl | exact Or.inr (Or.inl rfl) | exact Or.inr (Or.inr rfl))) (so_pk (i := 0) rfl (by first | exact Or.inl rfl | exact Or.inr (Or.inl rfl) | exact Or.inr (Or.inr rfl)))))))
  (sss_one (ss_ret (se_mv (i := 2) rfl (by first | exact Or.inl rfl | exact Or.inr (Or.inl rfl) | exact Or.inr (Or.inr rfl)))))))
theorem at_power (T : Top mg)  (t : FT K mg "power" s_power ["base", "exponent"]) : FnAt P w K mg base EX "power" 1 2 F_power := t.at fun F => ok_power T  F
theorem ok__law_box (T : Top mg)  {f : Addr} {fd : FuncData} (F : Fun K "_law_box" "_law_box" s__law_box f fd) : FnOk P w K mg base (L2.CX P w) 1 f fd ["script"] (spF K EX 1 F__law_box) :=
  fn_body (N := N__law_box) (k := 0) (body := b__law_box) F sc__law_box (fun _ _ _ _ h => h) fun cdv A outer s H E hr =>
  (sss_one (ss_ret (se_lst (sl_cons (sd_of se_int) (sl_cons (sd_of se_int) (sl_cons (sd_of (se_callTy call_list_of fn_list (by rfl) T.b_list (by decide +kernel) (sos_cons (so_pk (i := 0) rfl (by first | exact Or.inl rfl | exact Or.inr (Or.inl rfl) | exact Or.inr (Or.inr rfl))) sos_nil))) (sl_cons (sd_of se_int) sl_nil)))))))
theorem at__law_box (T : Top mg)  (t : FT K mg "_law_box" s__law_box ["script"]) : FnAt P w K mg base EX "_law_box" 1 1 F__law_box := t.at fun F => ok__law_box T  F
theorem ok__law_draw (T : Top mg)  {f : Addr} {fd : FuncData} (F : Fun K "_law_draw" "_law_draw" s__law_draw f fd) : FnOk P w K mg base (L2.CX P w) 1 f fd ["box", "limit"] (spF K EX 2 F__law_draw) :=
  fn_body (N := N__law_draw) (k := 0) (body := b__law_draw) F sc__law_draw (fun _ _ _ _ h => h) fun cdv A outer s H E hr =>
  (sss_cons (ss_if (st_cmp op_lt f2_cmp (nomark _) (so_of (se_ix ix_seq f2_idx (fun _ _ => rfl) (so_pk (i := 0) rfl (by first | exact Or.inl rfl | exact Or.inr (Or.inl rfl) | exact Or.inr (Or.inr rfl))) (so_of se_int))) (so_pk (i := 1) rfl (by first | exact Or.inl rfl | exact Or.inr (Or.inl rfl) | exact Or.inr (Or.inr rfl))))
  (sss_cons (ss_set (i := 2) sc__law_draw.nd rfl (by first | exact Or.inl rfl | exact Or.inr rfl) (se_ix ix_seq f2_idx (fun _ _ => rfl) (so_pk (i := 0) rfl (by first | exact Or.inl rfl | exact Or.inr (Or.inl rfl) | exact Or.inr (Or.inr rfl))) (so_of se_int)))
  (sss_cons (ss_setIx (i := 0) rfl (by first | exact Or.inl rfl | exact Or.inr (Or.inl rfl) | exact Or.inr (Or.inr rfl)) (sd_of (se_bin opr_add f2_add (so_pk (i := 2) rfl (by first | exact Or.inl rfl | exact Or.inr (Or.inl rfl) | exact Or.inr (Or.inr rfl))) (so_of se_int))) (so_of se_int))
  (sss_cons (ss_set (i := 3) sc__law_draw.nd rfl (by first | exact Or.inl rfl | exact Or.inr rfl) se_int)
  (sss_cons (ss_if (st_cmp op_lt f2_cmp (nomark _) (so_pk (i := 2) rfl (by first | exact Or.inl rfl | exact Or.inr (Or.inl rfl) | exact Or.inr (Or.inr rfl))) (so_of (se_callB call_len fn_len (by rfl) T.b_len (by decide +kernel) (sos_cons (so_of (se_ix ix_seq f2_idx (fun _ _ => rfl) (so_pk (i := 0) rfl (by first | exact Or.inl rfl | exact Or.inr (Or.inl rfl) | exact Or.inr (Or.inr rfl))) (so_of se_int))) sos_nil))))
  (sss_one (ss_set (i := 3) sc__law_draw.nd rfl (by first | exact Or.inl rfl | exact Or.inr rfl) (se_ix ix_seq f2_idx (fun _ _ => rfl) (so_of (se_ix ix_seq f2_idx (fun _ _ => rfl) (so_pk (i := 0) rfl (by first | exact Or.inl rfl | exact Or.inr (Or.inl rfl) | exact Or.inr (Or.inr rfl))) (so_of se_int))) (so_pk (i := 2) rfl (by first | exact Or.inl rfl | exact Or.inr (Or.inl rfl) | exact Or.inr (Or.inr rfl))))))
  sss_nil)
  (sss_cons (ss_if (st_cmp op_lt f2_cmp (nomark _) (so_pk (i := 3) rfl (by first | exact Or.inl rfl | exact Or.inr (Or.inl rfl) | exact Or.inr (Or.inr rfl))) (so_of se_int))
  (sss_one (ss_set (i := 3) sc__law_draw.nd rfl (by first | exact Or.inl rfl | exact Or.inr rfl) (se_bin op_sub f2_sub (so_of (se_bin op_sub f2_sub (so_of se_int) (so_of se_int))) (so_pk (i := 3) rfl (by first | exact Or.inl rfl | exact Or.inr (Or.inl rfl) | exact Or.inr (Or.inr rfl))))))
  sss_nil)
  (sss_one (ss_if (st_cmp op_ge f2_cmp (nomark _) (so_pk (i := 3) rfl (by first | exact Or.inl rfl | exact Or.inr (Or.inl rfl) | exact Or.inr (Or.inr rfl))) (so_of (se_bin op_pow f2_pow (so_of se_int) (so_of se_int))))
  (sss_one (ss_setIx (i := 0) rfl (by first | exact Or.inl rfl | exact Or.inr (Or.inl rfl) | exact Or.inr (Or.inr rfl)) (sd_of (se_rd (i := 3) rfl (by first | exact Or.inl rfl | exact Or.inr (Or.inl rfl) | exact Or.inr (Or.inr rfl)))) (so_of se_int)))
  (sss_cons (ss_setIx (i := 0) rfl (by first | exact Or.inl rfl | exact Or.inr (Or.inl rfl) | exact Or.inr (Or.inr rfl)) (sd_of (se_bin op_mod f2_mod (so_of (se_callTy call_int1 fn_int (by rfl) T.b_int (by decide +kernel) (sos_cons (so_of (se_bin opr_mul f2_mul (so_of (se_bin opr_add f2_add (so_of (se_bin opr_add f2_add (so_of (se_bin opr_add f2_add (so_of (se_ix ix_seq f2_idx (fun _ _ => rfl) (so_pk (i := 0) rfl (by first | exact Or.inl rfl | exact Or.inr (Or.inl rfl) | exact Or.inr (Or.inr rfl))) (so_of se_int))) (so_of (se_bin op_mod f2_mod (so_of (se_callTy call_int1 fn_int (by rfl) T.b_int (by decide +kernel) (sos_cons (so_pk (i := 3) rfl (by first | exact Or.inl rfl | exact Or.inr (Or.inl rfl) | exact Or.inr (Or.inr rfl))) sos_nil))) (so_of se_int))))) (so_pk (i := 2) rfl (by first | exact Or.inl rfl | exact Or.inr (Or.inl rfl) | exact Or.inr (Or.inr rfl))))) (so_of se_int))) (so_of se_int))) sos_nil))) (so_of se_int))) (so_of se_int))
  (sss_cons (ss_set (i := 4) sc__law_draw.nd rfl (by first | exact Or.inl rfl | exact Or.inr rfl) (se_bin op_mod f2_mod (so_of (se_callTy call_int1 fn_int (by rfl) T.b_int (by decide +kernel) (sos_cons (so_of (se_bin opr_add f2_add (so_of (se_bin opr_mul f2_mul (so_of (se_ix ix_seq f2_idx (fun _ _ => rfl) (so_pk (i := 0) rfl (by first | exact Or.inl rfl | exact Or.inr (Or.inl rfl) | exact Or.inr (Or.inr rfl))) (so_of se_int))) (so_of se_int))) (so_of se_int))) sos_nil))) (so_of se_int)))
  (sss_one (ss_setIx (i := 0) rfl (by first | exact Or.inl rfl | exact Or.inr (Or.inl rfl) | exact Or.inr (Or.inr rfl)) (sd_of (se_bin opr_add f2_add (so_of (se_bin opr_mul f2_mul (so_pk (i := 4) rfl (by first | exact Or.inl rfl | exact Or.inr (Or.inl rfl) | exact Or.inr (Or.inr rfl))) (so_of se_int))) (so_of (se_bin op_mod f2_mod (so_of (se_callTy call_int1 fn_int (by rfl) T.b_int (by decide +kernel) (sos_cons (so_of (se_bin opr_add f2_add (so_of (se_bin opr_mul f2_mul (so_pk (i := 4) rfl (by first | exact Or.inl rfl | exact Or.inr (Or.inl rfl) | exact Or.inr (Or.inr rfl))) (so_of se_int))) (so_of (se_ix ix_seq f2_idx (fun _ _ => rfl) (so_pk (i := 0) rfl (by first | exact Or.inl rfl | exact Or.inr (Or.inl rfl) | exact Or.inr (Or.inr rfl))) (so_of se_int))))) sos_nil))) (so_of se_int))))) (so_of se_int))))))))))))
  sss_nil)
  (sss_cons (ss_set (i := 5) sc__law_draw.nd rfl (by first | exact Or.inl rfl | exact Or.inr rfl) (se_bin op_mod f2_mod (so_of (se_callTy call_int1 fn_int (by rfl) T.b_int (by decide +kernel) (sos_cons (so_of (se_ix ix_seq f2_idx (fun _ _ => rfl) (so_pk (i := 0) rfl (by first | exact Or.inl rfl | exact Or.inr (Or.inl rfl) | exact Or.inr (Or.inr rfl))) (so_of se_int))) sos_nil))) (so_pk (i := 1) rfl (by first | exact Or.inl rfl | exact Or.inr (Or.inl rfl) | exact Or.inr (Or.inr rfl)))))
  (sss_cons (ss_setIx (i := 0) rfl (by first | exact Or.inl rfl | exact Or.inr (Or.inl rfl) | exact Or.inr (Or.inr rfl)) (sd_of (se_bin op_fdivW f2_div (so_of (se_ix ix_seq f2_idx (fun _ _ => rfl) (so_pk (i := 0) rfl (by first | exact Or.inl rfl | exact Or.inr (Or.inl rfl) | exact Or.inr (Or.inr rfl))) (so_of se_int))) (so_pk (i := 1) rfl (by first | exact Or.inl rfl | exact Or.inr (Or.inl rfl) | exact Or.inr (Or.inr rfl))))) (so_of se_int))
  (sss_one (ss_ret (se_mv (i := 5) rfl (by first | exact Or.inl rfl | exact Or.inr (Or.inl rfl) | exact Or.inr (Or.inr rfl))))))))
theorem at__law_draw (T : Top mg)  (t : FT K mg "_law_draw" s__law_draw ["box", "limit"]) : FnAt P w K mg base EX "_law_draw" 1 2 F__law_draw := t.at fun F => ok__law_draw T  F
theorem ok__law_same (T : Top mg)  {n : Nat} (A__law_same : FnAt P w K mg base EX "_law_same" (n + 1) 2 (F__law_same n)) {f : Addr} {fd : FuncData} (F : Fun K "_law_same" "_law_same" s__law_same f fd) : FnOk P w K mg base (L2.CX P w) (n + 2) f fd ["one", "two"] (spF K EX 2 (F__law_same (n + 1))) :=
  fn_body (N := N__law_same) (k := n + 1) (body := b__law_same (F__law_same n)) F sc__law_same (fun _ _ _ _ h => h) fun cdv A outer s H E hr =>
  (sss_cons (ss_if (st_val (se_isi2 (by rfl) T.b_isinstance (T := "tuple") (U := "list") (by rfl) T.b_tuple (by decide +kernel) (by decide) (by rfl) T.b_list (by decide +kernel) (by decide) (so_pk (i := 0) rfl (by first | exact Or.inl rfl | exact Or.inr (Or.inl rfl) | exact Or.inr (Or.inr rfl)))))
  (sss_cons (ss_if (SW.st (sw_or (st_cmp (op_neA hr) f2_eq (nomark _) (so_of (se_isi (by rfl) T.b_isinstance (T := "tuple") (by rfl) T.b_tuple (by decide +kernel) (by decide) (so_pk (i := 0) rfl (by first | exact Or.inl rfl | exact Or.inr (Or.inl rfl) | exact Or.inr (Or.inr rfl))))) (so_of (se_isi (by rfl) T.b_isinstance (T := "tuple") (by rfl) T.b_tuple (by decide +kernel) (by decide) (so_pk (i := 1) rfl (by first | exact Or.inl rfl | exact Or.inr (Or.inl rfl) | exact Or.inr (Or.inr rfl)))))) (sw_or (st_cmp (op_neA hr) f2_eq (nomark _) (so_of (se_isi (by rfl) T.b_isinstance (T := "list") (by rfl) T.b_list (by decide +kernel) (by decide) (so_pk (i := 0) rfl (by first | exact Or.inl rfl | exact Or.inr (Or.inl rfl) | exact Or.inr (Or.inr rfl))))) (so_of (se_isi (by rfl) T.b_isinstance (T := "list") (by rfl) T.b_list (by decide +kernel) (by decide) (so_pk (i := 1) rfl (by first | exact Or.inl rfl | exact Or.inr (Or.inl rfl) | exact Or.inr (Or.inr rfl)))))) (sw_or1 (st_cmp (op_neA hr) f2_eq (nomark _) (so_of (se_callB call_len fn_len (by rfl) T.b_len (by decide +kernel) (sos_cons (so_pk (i := 0) rfl (by first | exact Or.inl rfl | exact Or.inr (Or.inl rfl) | exact Or.inr (Or.inr rfl))) sos_nil))) (so_of (se_callB call_len fn_len (by rfl) T.b_len (by decide +kernel) (sos_cons (so_pk (i := 1) rfl (by first | exact Or.inl rfl | exact Or.inr (Or.inl rfl) | exact Or.inr (Or.inr rfl))) sos_nil))))))))
  (sss_one (ss_ret se_bl))
  sss_nil)
  (sss_one (ss_ret (se_cmp (op_eqA hr) f2_eq (nomark _) (so_of (se_callB call_len fn_len (by rfl) T.b_len (by decide +kernel) (sos_cons (so_of (se_lc (own := [("a", 2), ("b", 3)]) rfl sc__law_same.nd (si_zip (by rfl) T.b_zip (sl_cons (sd_of (se_rd (i := 0) rfl (by first | exact Or.inl rfl | exact Or.inr (Or.inl rfl) | exact Or.inr (Or.inr rfl)))) (sl_cons (sd_of (se_rd (i := 1) rfl (by first | exact Or.inl rfl | exact Or.inr (Or.inl rfl) | exact Or.inr (Or.inr rfl)))) sl_nil))) (blkOk_by (N := N__law_same) (sc := defScope s__law_same) (own := [("a", 2), ("b", 3)]) (by decide +kernel)) (fun _ _ _ _ _ => (sg_tup rfl (sgs_cons (sg_name (i := 2) sc__law_same.nd rfl (by first | exact Or.inl rfl | exact Or.inr rfl) (by decide)) (sgs_cons (sg_name (i := 3) sc__law_same.nd rfl (by first | exact Or.inl rfl | exact Or.inr rfl) (by decide)) sgs_nil)))) (fun _ _ _ _ _ => (sts_one (st_not (st_val (se_callF A__law_same takes0 (hr.mono (by omega)) (by rfl) (sos_cons (so_of (se_rd (i := 2) rfl (by first | exact Or.inl rfl | exact Or.inr (Or.inl rfl) | exact Or.inr (Or.inr rfl)))) (sos_cons (so_of (se_rd (i := 3) rfl (by first | exact Or.inl rfl | exact Or.inr (Or.inl rfl) | exact Or.inr (Or.inr rfl)))) sos_nil)) (.cons (.cons OsLen.nil))))))) (fun _ _ _ _ _ => (sd_of se_int)))) sos_nil))) (so_of se_int)))))
  sss_nil)
  (sss_one (ss_ret (se_and (se_cmp (op_eqA hr) f2_eq (nomark _) (so_of (se_isi (by rfl) T.b_isinstance (T := "bool") (by rfl) T.b_bool (by decide +kernel) (by decide) (so_pk (i := 0) rfl (by first | exact Or.inl rfl | exact Or.inr (Or.inl rfl) | exact Or.inr (Or.inr rfl))))) (so_of (se_isi (by rfl) T.b_isinstance (T := "bool") (by rfl) T.b_bool (by decide +kernel) (by decide) (so_pk (i := 1) rfl (by first | exact Or.inl rfl | exact Or.inr (Or.inl rfl) | exact Or.inr (Or.inr rfl)))))) (se_one (se_cmp (op_eqA hr) f2_eq (nomark _) (so_pk (i := 0) rfl (by first | exact Or.inl rfl | exact Or.inr (Or.inl rfl) | exact Or.inr (Or.inr rfl))) (so_pk (i := 1) rfl (by first | exact Or.inl rfl | exact Or.inr (Or.inl rfl) | exact Or.inr (Or.inr rfl)))))))))
theorem at__law_same (T : Top mg)  (t : FT K mg "_law_same" s__law_same ["one", "two"]) : ∀ n, FnAt P w K mg base EX "_law_same" (n + 1) 2 (F__law_same n)
  | 0 => t.at0
  | n + 1 => t.at fun F => ok__law_same T  (at__law_same T  t n) F
theorem ok__law_rows (T : Top mg)  {f : Addr} {fd : FuncData} (F : Fun K "_law_rows" "_law_rows" s__law_rows f fd) : FnOk P w K mg base (L2.CX P w) 1 f fd ["size", "other"] (spF K EX 2 F__law_rows) :=
  fn_body (N := N__law_rows) (k := 0) (body := b__law_rows) F sc__law_rows (fun _ _ _ _ h => h) fun cdv A outer s H E hr =>
  (sss_cons (ss_set (i := 2) sc__law_rows.nd rfl (by first | exact Or.inl rfl | exact Or.inr rfl) (se_lst (sl_cons (sd_of (se_tup sl_nil)) sl_nil)))
  (sss_cons (ss_for (is := [3]) (passes_of rfl) rfl (si_range1 (by rfl) T.b_range (sl_cons (sd_of (se_bin opr_add f2_add (so_pk (i := 0) rfl (by first | exact Or.inl rfl | exact Or.inr (Or.inl rfl) | exact Or.inr (Or.inr rfl))) (so_pk (i := 1) rfl (by first | exact Or.inl rfl | exact Or.inr (Or.inl rfl) | exact Or.inr (Or.inr rfl))))) sl_nil)) (sg_name (i := 3) sc__law_rows.nd rfl (by first | exact Or.inl rfl | exact Or.inr rfl) (by decide)) (sss_cons (ss_set (i := 4) sc__law_rows.nd rfl (by first | exact Or.inl rfl | exact Or.inr rfl) (se_lst sl_nil))
  (sss_cons (ss_for (is := [5]) (passes_of rfl) rfl (si_seq (sd_of (se_rd (i := 2) rfl (by first | exact Or.inl rfl | exact Or.inr (Or.inl rfl) | exact Or.inr (Or.inr rfl))))) (sg_name (i := 5) sc__law_rows.nd rfl (by first | exact Or.inl rfl | exact Or.inr rfl) (by decide)) (sss_one (ss_set (i := 4) sc__law_rows.nd rfl (by first | exact Or.inl rfl | exact Or.inr rfl) (se_bin opr_add f2_add (so_of (se_bin opr_add f2_add (so_pk (i := 4) rfl (by first | exact Or.inl rfl | exact Or.inr (Or.inl rfl) | exact Or.inr (Or.inr rfl))) (so_of (se_bin opr_mul f2_mul (so_of (se_lst (sl_cons (sd_of (se_bin opr_add f2_add (so_pk (i := 5) rfl (by first | exact Or.inl rfl | exact Or.inr (Or.inl rfl) | exact Or.inr (Or.inr rfl))) (so_of (se_tup (sl_cons (sd_of se_int) sl_nil))))) sl_nil))) (so_of (se_callTy call_int1 fn_int (by rfl) T.b_int (by decide +kernel) (sos_cons (so_of (se_cmp op_lt f2_cmp (nomark _) (so_of (se_callB (CallR.or (cr_sum rfl) (cr_sumT rfl)) fn_sum (by rfl) T.b_sum (by decide +kernel) (sos_cons (so_pk (i := 5) rfl (by first | exact Or.inl rfl | exact Or.inr (Or.inl rfl) | exact Or.inr (Or.inr rfl))) sos_nil))) (so_pk (i := 0) rfl (by first | exact Or.inl rfl | exact Or.inr (Or.inl rfl) | exact Or.inr (Or.inr rfl))))) sos_nil))))))) (so_of (se_bin opr_mul f2_mul (so_of (se_lst (sl_cons (sd_of (se_bin opr_add f2_add (so_pk (i := 5) rfl (by first | exact Or.inl rfl | exact Or.inr (Or.inl rfl) | exact Or.inr (Or.inr rfl))) (so_of (se_tup (sl_cons (sd_of se_int) sl_nil))))) sl_nil))) (so_of (se_callTy call_int1 fn_int (by rfl) T.b_int (by decide +kernel) (sos_cons (so_of (se_cmp op_lt f2_cmp (nomark _) (so_of (se_bin op_sub f2_sub (so_of (se_callB call_len fn_len (by rfl) T.b_len (by decide +kernel) (sos_cons (so_pk (i := 5) rfl (by first | exact Or.inl rfl | exact Or.inr (Or.inl rfl) | exact Or.inr (Or.inr rfl))) sos_nil))) (so_of (se_callB (CallR.or (cr_sum rfl) (cr_sumT rfl)) fn_sum (by rfl) T.b_sum (by decide +kernel) (sos_cons (so_pk (i := 5) rfl (by first | exact Or.inl rfl | exact Or.inr (Or.inl rfl) | exact Or.inr (Or.inr rfl))) sos_nil))))) (so_pk (i := 1) rfl (by first | exact Or.inl rfl | exact Or.inr (Or.inl rfl) | exact Or.inr (Or.inr rfl))))) sos_nil)))))))))
  (sss_one (ss_set (i := 2) sc__law_rows.nd rfl (by first | exact Or.inl rfl | exact Or.inr rfl) (se_rd (i := 4) rfl (by first | exact Or.inl rfl | exact Or.inr (Or.inl rfl) | exact Or.inr (Or.inr rfl))))))))
  (sss_one (ss_ret (se_mv (i := 2) rfl (by first | exact Or.inl rfl | exact Or.inr (Or.inl rfl) | exact Or.inr (Or.inr rfl)))))))
theorem at__law_rows (T : Top mg)  (t : FT K mg "_law_rows" s__law_rows ["size", "other"]) : FnAt P w K mg base EX "_law_rows" 1 2 F__law_rows := t.at fun F => ok__law_rows T  F
theorem ok_law (T : Top mg) (A_factorial : FnAt P w K mg base EX "factorial" 1 1 F_factorial) (A_choose : FnAt P w K mg base EX "choose" 1 2 F_choose) (A_mixtures : FnAt P w K mg base EX "mixtures" 2 1 F_mixtures) (A_rises_of_counts : FnAt P w K mg base EX "rises_of_counts" 1 1 F_rises_of_counts) (A_mixtures_at : FnAt P w K mg base EX "mixtures_at" 2 4 F_mixtures_at) (A_power : FnAt P w K mg base EX "power" 1 2 F_power) (A__law_box : FnAt P w K mg base EX "_law_box" 1 1 F__law_box) (A__law_draw : FnAt P w K mg base EX "_law_draw" 1 2 F__law_draw) (A__law_same : FnAt P w K mg base EX "_law_same" 71 2 (F__law_same 70)) (A__law_rows : FnAt P w K mg base EX "_law_rows" 1 2 F__law_rows) {f : Addr} {fd : FuncData} (F : Fun K "law" "law" s_law f fd) : FnOk P w K mg base (L2.CX P w) 72 f fd ["script"] (spF K EX 1 F_law) :=
  fn_body (N := N_law) (k := 71) (body := b_law) F sc_law (fun _ _ _ _ h => h) fun cdv A outer s H E hr =>
  (sss_cons (ss_set (i := 1) sc_law.nd rfl (by first | exact Or.inl rfl | exact Or.inr rfl) (se_callF A__law_box (takes_of rfl rfl rfl rfl) (hr.mono (by decide)) (by rfl) (sos_cons (so_of (se_rd (i := 0) rfl (by first | exact Or.inl rfl | exact Or.inr (Or.inl rfl) | exact Or.inr (Or.inr rfl)))) sos_nil) (.cons OsLen.nil)))
  (sss_cons (ss_par2 (i := 2) (j := 3) rfl sc_law.nd rfl rfl (by decide) rfl rfl (sfs_cons (se_callF A__law_draw (takes_of rfl rfl rfl rfl) (hr.mono (by decide)) (by rfl) (sos_cons (so_pk (i := 1) rfl (by first | exact Or.inl rfl | exact Or.inr (Or.inl rfl) | exact Or.inr (Or.inr rfl))) (sos_cons (so_of se_int) sos_nil)) (.cons (.cons OsLen.nil))) (sfs_cons se_int sfs_nil)) (by rfl))
  (sss_cons (ss_for (is := [4]) (passes_of rfl) rfl (si_range1 (by rfl) T.b_range (sl_cons (sd_of (se_rd (i := 2) rfl (by first | exact Or.inl rfl | exact Or.inr (Or.inl rfl) | exact Or.inr (Or.inr rfl)))) sl_nil)) (sg_name (i := 4) sc_law.nd rfl (by first | exact Or.inl rfl | exact Or.inr rfl) (by decide)) (sss_one (ss_set (i := 3) sc_law.nd rfl (by first | exact Or.inl rfl | exact Or.inr rfl) (se_bin opr_mul f2_mul (so_pk (i := 3) rfl (by first | exact Or.inl rfl | exact Or.inr (Or.inl rfl) | exact Or.inr (Or.inr rfl))) (so_of (se_bin opr_add f2_add (so_pk (i := 4) rfl (by first | exact Or.inl rfl | exact Or.inr (Or.inl rfl) | exact Or.inr (Or.inr rfl))) (so_of se_int)))))))
  (sss_cons (ss_if (SW.st (sw_or (st_not (st_val (se_callF A__law_same (takes_of rfl rfl rfl rfl) (hr.mono (by decide)) (by rfl) (sos_cons (so_of (se_callF A_factorial (takes_of rfl rfl rfl rfl) (hr.mono (by decide)) (by rfl) (sos_cons (so_of (se_rd (i := 2) rfl (by first | exact Or.inl rfl | exact Or.inr (Or.inl rfl) | exact Or.inr (Or.inr rfl)))) sos_nil) (.cons OsLen.nil))) (sos_cons (so_of (se_rd (i := 3) rfl (by first | exact Or.inl rfl | exact Or.inr (Or.inl rfl) | exact Or.inr (Or.inr rfl)))) sos_nil)) (.cons (.cons OsLen.nil))))) (sw_or1 (st_not (st_val (se_callF A__law_same (takes_of rfl rfl rfl rfl) (hr.mono (by decide)) (by rfl) (sos_cons (so_of (se_callF A_factorial (takes_of rfl rfl rfl rfl) (hr.mono (by decide)) (by rfl) (sos_cons (so_of (se_bin opr_add f2_add (so_pk (i := 2) rfl (by first | exact Or.inl rfl | exact Or.inr (Or.inl rfl) | exact Or.inr (Or.inr rfl))) (so_of se_int))) sos_nil) (.cons OsLen.nil))) (sos_cons (so_of (se_bin opr_mul f2_mul (so_pk (i := 3) rfl (by first | exact Or.inl rfl | exact Or.inr (Or.inl rfl) | exact Or.inr (Or.inr rfl))) (so_of (se_bin opr_add f2_add (so_pk (i := 2) rfl (by first | exact Or.inl rfl | exact Or.inr (Or.inl rfl) | exact Or.inr (Or.inr rfl))) (so_of se_int))))) sos_nil)) (.cons (.cons OsLen.nil))))))))
  (sss_one (ss_ret se_bl))
  sss_nil)
  (sss_cons (ss_set (i := 5) sc_law.nd rfl (by first | exact Or.inl rfl | exact Or.inr rfl) (se_lst (sl_cons (sd_of se_int) sl_nil)))
  (sss_cons (ss_for (is := [6]) (passes_of rfl) rfl (si_range1 (by rfl) T.b_range (sl_cons (sd_of (se_rd (i := 2) rfl (by first | exact Or.inl rfl | exact Or.inr (Or.inl rfl) | exact Or.inr (Or.inr rfl)))) sl_nil)) (sg_name (i := 6) sc_law.nd rfl (by first | exact Or.inl rfl | exact Or.inr rfl) (by decide)) (sss_one (ss_setLc (i := 5) (own := [("a", 7), ("b", 8)]) rfl sc_law.nd rfl rfl (sw_true rfl rfl rfl (by decide +kernel)) (si_zip (by rfl) T.b_zip (sl_cons (sd_of (se_bin opr_add f2_add (so_of (se_lst (sl_cons (sd_of se_int) sl_nil))) (so_pk (i := 5) rfl (by first | exact Or.inl rfl | exact Or.inr (Or.inl rfl) | exact Or.inr (Or.inr rfl))))) (sl_cons (sd_of (se_bin opr_add f2_add (so_pk (i := 5) rfl (by first | exact Or.inl rfl | exact Or.inr (Or.inl rfl) | exact Or.inr (Or.inr rfl))) (so_of (se_lst (sl_cons (sd_of se_int) sl_nil))))) sl_nil))) (blkOk_by (N := N_law) (sc := defScope s_law) (own := [("a", 7), ("b", 8)]) (by decide +kernel)) (fun _ _ _ _ _ => (sg_tup rfl (sgs_cons (sg_name (i := 7) sc_law.nd rfl (by first | exact Or.inl rfl | exact Or.inr rfl) (by decide)) (sgs_cons (sg_name (i := 8) sc_law.nd rfl (by first | exact Or.inl rfl | exact Or.inr rfl) (by decide)) sgs_nil)))) (fun _ _ _ _ _ => sts_nil) (fun _ _ _ _ _ => (sd_of (se_bin opr_add f2_add (so_pk (i := 7) rfl (by first | exact Or.inl rfl | exact Or.inr (Or.inl rfl) | exact Or.inr (Or.inr rfl))) (so_pk (i := 8) rfl (by first | exact Or.inl rfl | exact Or.inr (Or.inl rfl) | exact Or.inr (Or.inr rfl)))))))))
  (sss_cons (ss_for (is := [9]) (passes_of rfl) rfl (si_range1 (by rfl) T.b_range (sl_cons (sd_of (se_bin opr_add f2_add (so_pk (i := 2) rfl (by first | exact Or.inl rfl | exact Or.inr (Or.inl rfl) | exact Or.inr (Or.inr rfl))) (so_of se_int))) sl_nil)) (sg_name (i := 9) sc_law.nd rfl (by first | exact Or.inl rfl | exact Or.inr rfl) (by decide)) (sss_one (ss_if (st_not (st_val (se_callF A__law_same (takes_of rfl rfl rfl rfl) (hr.mono (by decide)) (by rfl) (sos_cons (so_of (se_callF A_choose (takes_of rfl rfl rfl rfl) (hr.mono (by decide)) (by rfl) (sos_cons (so_of (se_rd (i := 2) rfl (by first | exact Or.inl rfl | exact Or.inr (Or.inl rfl) | exact Or.inr (Or.inr rfl)))) (sos_cons (so_of (se_rd (i := 9) rfl (by first | exact Or.inl rfl | exact Or.inr (Or.inl rfl) | exact Or.inr (Or.inr rfl)))) sos_nil)) (.cons (.cons OsLen.nil)))) (sos_cons (so_of (se_ix ix_seq f2_idx (fun _ _ => rfl) (so_pk (i := 5) rfl (by first | exact Or.inl rfl | exact Or.inr (Or.inl rfl) | exact Or.inr (Or.inr rfl))) (so_pk (i := 9) rfl (by first | exact Or.inl rfl | exact Or.inr (Or.inl rfl) | exact Or.inr (Or.inr rfl))))) sos_nil)) (.cons (.cons OsLen.nil)))))
  (sss_one (ss_ret se_bl))
  sss_nil)))
  (sss_cons (ss_if (SW.st (sw_or (st_cmp (op_neA hr) f2_eq (nomark _) (so_of (se_callF A_choose (takes_of rfl rfl rfl rfl) (hr.mono (by decide)) (by rfl) (sos_cons (so_of (se_rd (i := 2) rfl (by first | exact Or.inl rfl | exact Or.inr (Or.inl rfl) | exact Or.inr (Or.inr rfl)))) (sos_cons (so_of (se_bin op_sub f2_sub (so_of se_int) (so_of se_int))) sos_nil)) (.cons (.cons OsLen.nil)))) (so_of se_int)) (sw_or (st_cmp (op_neA hr) f2_eq (nomark _) (so_of (se_callF A_choose (takes_of rfl rfl rfl rfl) (hr.mono (by decide)) (by rfl) (sos_cons (so_of (se_rd (i := 2) rfl (by first | exact Or.inl rfl | exact Or.inr (Or.inl rfl) | exact Or.inr (Or.inr rfl)))) (sos_cons (so_of (se_bin opr_add f2_add (so_pk (i := 2) rfl (by first | exact Or.inl rfl | exact Or.inr (Or.inl rfl) | exact Or.inr (Or.inr rfl))) (so_of se_int))) sos_nil)) (.cons (.cons OsLen.nil)))) (so_of se_int)) (sw_or1 (st_cmp (op_neA hr) f2_eq (nomark _) (so_of (se_callF A_choose (takes_of rfl rfl rfl rfl) (hr.mono (by decide)) (by rfl) (sos_cons (so_of (se_rd (i := 2) rfl (by first | exact Or.inl rfl | exact Or.inr (Or.inl rfl) | exact Or.inr (Or.inr rfl)))) (sos_cons (so_of (se_bin opr_add f2_add (so_pk (i := 2) rfl (by first | exact Or.inl rfl | exact Or.inr (Or.inl rfl) | exact Or.inr (Or.inr rfl))) (so_of se_int))) sos_nil)) (.cons (.cons OsLen.nil)))) (so_of se_int))))))
  (sss_one (ss_ret se_bl))
  sss_nil)
  (sss_cons (ss_parT (is := [10, 11, 12, 13]) rfl (sfs_cons (se_lc (own := [("turn", 6)]) rfl sc_law.nd (si_range1 (by rfl) T.b_range (sl_cons (sd_of (se_callF A__law_draw (takes_of rfl rfl rfl rfl) (hr.mono (by decide)) (by rfl) (sos_cons (so_pk (i := 1) rfl (by first | exact Or.inl rfl | exact Or.inr (Or.inl rfl) | exact Or.inr (Or.inr rfl))) (sos_cons (so_of se_int) sos_nil)) (.cons (.cons OsLen.nil)))) sl_nil)) (blkOk_by (N := N_law) (sc := defScope s_law) (own := [("turn", 6)]) (by decide +kernel)) (fun _ _ _ _ _ => (sg_name (i := 6) sc_law.nd rfl (by first | exact Or.inl rfl | exact Or.inr rfl) (by decide))) (fun _ _ _ _ _ => sts_nil) (fun _ _ _ _ _ => (sd_of (se_callF A__law_draw takes0 (hr.mono (by decide)) (by rfl) (sos_cons (so_pk (i := 1) rfl (by first | exact Or.inl rfl | exact Or.inr (Or.inl rfl) | exact Or.inr (Or.inr rfl))) (sos_cons (so_of se_int) sos_nil)) (.cons (.cons OsLen.nil)))))) (sfs_cons se_int (sfs_cons se_int (sfs_cons (se_lst sl_nil) sfs_nil)))) (gn_cons (i := 10) sc_law.nd rfl (by first | exact Or.inl rfl | exact Or.inr rfl) (gn_cons (i := 11) sc_law.nd rfl (by first | exact Or.inl rfl | exact Or.inr rfl) (gn_cons (i := 12) sc_law.nd rfl (by first | exact Or.inl rfl | exact Or.inr rfl) (gn_cons (i := 13) sc_law.nd rfl (by first | exact Or.inl rfl | exact Or.inr rfl) gn_nil)))) (by decide))
  (sss_cons (ss_for (is := [14]) (passes_of rfl) rfl (si_seq (sd_of (se_rd (i := 10) rfl (by first | exact Or.inl rfl | exact Or.inr (Or.inl rfl) | exact Or.inr (Or.inr rfl))))) (sg_name (i := 14) sc_law.nd rfl (by first | exact Or.inl rfl | exact Or.inr rfl) (by decide)) (sss_cons (ss_set (i := 11) sc_law.nd rfl (by first | exact Or.inl rfl | exact Or.inr rfl) (se_bin opr_add f2_add (so_pk (i := 11) rfl (by first | exact Or.inl rfl | exact Or.inr (Or.inl rfl) | exact Or.inr (Or.inr rfl))) (so_pk (i := 14) rfl (by first | exact Or.inl rfl | exact Or.inr (Or.inl rfl) | exact Or.inr (Or.inr rfl)))))
  (sss_cons (ss_expr (se_append (i := 13) rfl (by first | exact Or.inl rfl | exact Or.inr (Or.inl rfl) | exact Or.inr (Or.inr rfl)) (sl_cons (sd_of (se_rd (i := 11) rfl (by first | exact Or.inl rfl | exact Or.inr (Or.inl rfl) | exact Or.inr (Or.inr rfl)))) sl_nil)))
  (sss_one (ss_for (is := [4]) (passes_of rfl) rfl (si_range1 (by rfl) T.b_range (sl_cons (sd_of (se_rd (i := 14) rfl (by first | exact Or.inl rfl | exact Or.inr (Or.inl rfl) | exact Or.inr (Or.inr rfl)))) sl_nil)) (sg_name (i := 4) sc_law.nd rfl (by first | exact Or.inl rfl | exact Or.inr rfl) (by decide)) (sss_one (ss_set (i := 12) sc_law.nd rfl (by first | exact Or.inl rfl | exact Or.inr rfl) (se_bin op_fdivW f2_div (so_of (se_bin opr_mul f2_mul (so_pk (i := 12) rfl (by first | exact Or.inl rfl | exact Or.inr (Or.inl rfl) | exact Or.inr (Or.inr rfl))) (so_of (se_bin op_sub f2_sub (so_pk (i := 11) rfl (by first | exact Or.inl rfl | exact Or.inr (Or.inl rfl) | exact Or.inr (Or.inr rfl))) (so_pk (i := 4) rfl (by first | exact Or.inl rfl | exact Or.inr (Or.inl rfl) | exact Or.inr (Or.inr rfl))))))) (so_of (se_bin opr_add f2_add (so_pk (i := 4) rfl (by first | exact Or.inl rfl | exact Or.inr (Or.inl rfl) | exact Or.inr (Or.inr rfl))) (so_of se_int)))))))))))
  (sss_cons (ss_if (SW.st (sw_or (st_not (st_val (se_callF A__law_same (takes_of rfl rfl rfl rfl) (hr.mono (by decide)) (by rfl) (sos_cons (so_of (se_callF A_mixtures (takes_of rfl rfl rfl rfl) (hr.mono (by decide)) (by rfl) (sos_cons (so_of (se_callTy call_list_of fn_list (by rfl) T.b_list (by decide +kernel) (sos_cons (so_pk (i := 10) rfl (by first | exact Or.inl rfl | exact Or.inr (Or.inl rfl) | exact Or.inr (Or.inr rfl))) sos_nil))) sos_nil) (.cons OsLen.nil))) (sos_cons (so_of (se_rd (i := 12) rfl (by first | exact Or.inl rfl | exact Or.inr (Or.inl rfl) | exact Or.inr (Or.inr rfl)))) sos_nil)) (.cons (.cons OsLen.nil))))) (sw_or1 (st_not (st_val (se_callF A__law_same (takes_of rfl rfl rfl rfl) (hr.mono (by decide)) (by rfl) (sos_cons (so_of (se_callF A_rises_of_counts (takes_of rfl rfl rfl rfl) (hr.mono (by decide)) (by rfl) (sos_cons (so_of (se_callTy call_list_of fn_list (by rfl) T.b_list (by decide +kernel) (sos_cons (so_pk (i := 10) rfl (by first | exact Or.inl rfl | exact Or.inr (Or.inl rfl) | exact Or.inr (Or.inr rfl))) sos_nil))) sos_nil) (.cons OsLen.nil))) (sos_cons (so_of (se_rd (i := 13) rfl (by first | exact Or.inl rfl | exact Or.inr (Or.inl rfl) | exact Or.inr (Or.inr rfl)))) sos_nil)) (.cons (.cons OsLen.nil))))))))
  (sss_one (ss_ret se_bl))
  sss_nil)
  (sss_cons (ss_par2 (i := 14) (j := 15) rfl sc_law.nd rfl rfl (by decide) rfl rfl (sfs_cons (se_bin opr_add f2_add (so_of se_int) (so_of (se_callF A__law_draw (takes_of rfl rfl rfl rfl) (hr.mono (by decide)) (by rfl) (sos_cons (so_pk (i := 1) rfl (by first | exact Or.inl rfl | exact Or.inr (Or.inl rfl) | exact Or.inr (Or.inr rfl))) (sos_cons (so_of se_int) sos_nil)) (.cons (.cons OsLen.nil))))) (sfs_cons (se_callF A__law_draw (takes_of rfl rfl rfl rfl) (hr.mono (by decide)) (by rfl) (sos_cons (so_pk (i := 1) rfl (by first | exact Or.inl rfl | exact Or.inr (Or.inl rfl) | exact Or.inr (Or.inr rfl))) (sos_cons (so_of se_int) sos_nil)) (.cons (.cons OsLen.nil))) sfs_nil)) (by rfl))
  (sss_cons (ss_set (i := 16) sc_law.nd rfl (by first | exact Or.inl rfl | exact Or.inr rfl) (se_callF A__law_rows (takes_of rfl rfl rfl rfl) (hr.mono (by decide)) (by rfl) (sos_cons (so_of (se_rd (i := 14) rfl (by first | exact Or.inl rfl | exact Or.inr (Or.inl rfl) | exact Or.inr (Or.inr rfl)))) (sos_cons (so_of (se_rd (i := 15) rfl (by first | exact Or.inl rfl | exact Or.inr (Or.inl rfl) | exact Or.inr (Or.inr rfl)))) sos_nil)) (.cons (.cons OsLen.nil))))
  (sss_cons (ss_if (SW.st (sw_or (st_cmp (op_neA hr) f2_eq (nomark _) (so_of (se_callF A_mixtures (takes_of rfl rfl rfl rfl) (hr.mono (by decide)) (by rfl) (sos_cons (so_of (se_lst (sl_cons (sd_of (se_rd (i := 14) rfl (by first | exact Or.inl rfl | exact Or.inr (Or.inl rfl) | exact Or.inr (Or.inr rfl)))) (sl_cons (sd_of (se_rd (i := 15) rfl (by first | exact Or.inl rfl | exact Or.inr (Or.inl rfl) | exact Or.inr (Or.inr rfl)))) sl_nil)))) sos_nil) (.cons OsLen.nil))) (so_of (se_callB call_len fn_len (by rfl) T.b_len (by decide +kernel) (sos_cons (so_pk (i := 16) rfl (by first | exact Or.inl rfl | exact Or.inr (Or.inl rfl) | exact Or.inr (Or.inr rfl))) sos_nil)))) (sw_or1 (st_cmp (op_neA hr) f2_eq (nomark _) (so_of (se_callF A_mixtures (takes_of rfl rfl rfl rfl) (hr.mono (by decide)) (by rfl) (sos_cons (so_of (se_lst (sl_cons (sd_of (se_rd (i := 15) rfl (by first | exact Or.inl rfl | exact Or.inr (Or.inl rfl) | exact Or.inr (Or.inr rfl)))) (sl_cons (sd_of (se_rd (i := 14) rfl (by first | exact Or.inl rfl | exact Or.inr (Or.inl rfl) | exact Or.inr (Or.inr rfl)))) sl_nil)))) sos_nil) (.cons OsLen.nil))) (so_of (se_callB call_len fn_len (by rfl) T.b_len (by decide +kernel) (sos_cons (so_pk (i := 16) rfl (by first | exact Or.inl rfl | exact Or.inr (Or.inl rfl) | exact Or.inr (Or.inr rfl))) sos_nil)))))))
  (sss_one (ss_ret se_bl))
  sss_nil)
  (sss_cons (ss_for (is := [17]) (passes_of rfl) rfl (si_range2 (by rfl) T.b_range (sl_cons (sd_of se_int) (sl_cons (sd_of (se_bin opr_add f2_add (so_pk (i := 14) rfl (by first | exact Or.inl rfl | exact Or.inr (Or.inl rfl) | exact Or.inr (Or.inr rfl))) (so_of se_int))) sl_nil))) (sg_name (i := 17) sc_law.nd rfl (by first | exact Or.inl rfl | exact Or.inr rfl) (by decide)) (sss_one (ss_for (is := [18]) (passes_of rfl) rfl (si_range1 (by rfl) T.b_range (sl_cons (sd_of (se_bin opr_add f2_add (so_pk (i := 15) rfl (by first | exact Or.inl rfl | exact Or.inr (Or.inl rfl) | exact Or.inr (Or.inr rfl))) (so_of se_int))) sl_nil)) (sg_name (i := 18) sc_law.nd rfl (by first | exact Or.inl rfl | exact Or.inr rfl) (by decide)) (sss_cons (ss_set (i := 19) sc_law.nd rfl (by first | exact Or.inl rfl | exact Or.inr rfl) se_int)
  (sss_cons (ss_for (is := [20]) (passes_of rfl) rfl (si_seq (sd_of (se_rd (i := 16) rfl (by first | exact Or.inl rfl | exact Or.inr (Or.inl rfl) | exact Or.inr (Or.inr rfl))))) (sg_name (i := 20) sc_law.nd rfl (by first | exact Or.inl rfl | exact Or.inr rfl) (by decide)) (sss_cons (ss_set (i := 21) sc_law.nd rfl (by first | exact Or.inl rfl | exact Or.inr rfl) (se_ix ix_seq f2_idx (fun _ _ => rfl) (so_of (se_lc (own := [("k", 22)]) rfl sc_law.nd (si_range1 (by rfl) T.b_range (sl_cons (sd_of (se_callB call_len fn_len (by rfl) T.b_len (by decide +kernel) (sos_cons (so_pk (i := 20) rfl (by first | exact Or.inl rfl | exact Or.inr (Or.inl rfl) | exact Or.inr (Or.inr rfl))) sos_nil))) sl_nil)) (blkOk_by (N := N_law) (sc := defScope s_law) (own := [("k", 22)]) (by decide +kernel)) (fun _ _ _ _ _ => (sg_name (i := 22) sc_law.nd rfl (by first | exact Or.inl rfl | exact Or.inr rfl) (by decide))) (fun _ _ _ _ _ => (sts_one (st_cmp (op_eqA hr) f2_eq (nomark _) (so_of (se_ix ix_seq f2_idx (fun _ _ => rfl) (so_pk (i := 20) rfl (by first | exact Or.inl rfl | exact Or.inr (Or.inl rfl) | exact Or.inr (Or.inr rfl))) (so_pk (i := 22) rfl (by first | exact Or.inl rfl | exact Or.inr (Or.inl rfl) | exact Or.inr (Or.inr rfl))))) (so_of se_int)))) (fun _ _ _ _ _ => (sd_of (se_rd (i := 22) rfl (by first | exact Or.inl rfl | exact Or.inr (Or.inl rfl) | exact Or.inr (Or.inr rfl))))))) (so_of (se_bin op_sub f2_sub (so_pk (i := 17) rfl (by first | exact Or.inl rfl | exact Or.inr (Or.inl rfl) | exact Or.inr (Or.inr rfl))) (so_of se_int)))))
  (sss_one (ss_set (i := 19) sc_law.nd rfl (by first | exact Or.inl rfl | exact Or.inr rfl) (se_bin opr_add f2_add (so_pk (i := 19) rfl (by first | exact Or.inl rfl | exact Or.inr (Or.inl rfl) | exact Or.inr (Or.inr rfl))) (so_of (se_callTy call_int1 fn_int (by rfl) T.b_int (by decide +kernel) (sos_cons (so_of (se_cmp (op_eqA hr) f2_eq (nomark _) (so_of (se_bin opr_add f2_add (so_of (se_bin op_sub f2_sub (so_pk (i := 21) rfl (by first | exact Or.inl rfl | exact Or.inr (Or.inl rfl) | exact Or.inr (Or.inr rfl))) (so_pk (i := 17) rfl (by first | exact Or.inl rfl | exact Or.inr (Or.inl rfl) | exact Or.inr (Or.inr rfl))))) (so_of se_int))) (so_pk (i := 18) rfl (by first | exact Or.inl rfl | exact Or.inr (Or.inl rfl) | exact Or.inr (Or.inr rfl))))) sos_nil))))))))
  (sss_one (ss_if (st_not (st_val (se_callF A__law_same (takes_of rfl rfl rfl rfl) (hr.mono (by decide)) (by rfl) (sos_cons (so_of (se_callF A_mixtures_at (takes_of rfl rfl rfl rfl) (hr.mono (by decide)) (by rfl) (sos_cons (so_of (se_rd (i := 14) rfl (by first | exact Or.inl rfl | exact Or.inr (Or.inl rfl) | exact Or.inr (Or.inr rfl)))) (sos_cons (so_of (se_rd (i := 15) rfl (by first | exact Or.inl rfl | exact Or.inr (Or.inl rfl) | exact Or.inr (Or.inr rfl)))) (sos_cons (so_of (se_rd (i := 17) rfl (by first | exact Or.inl rfl | exact Or.inr (Or.inl rfl) | exact Or.inr (Or.inr rfl)))) (sos_cons (so_of (se_rd (i := 18) rfl (by first | exact Or.inl rfl | exact Or.inr (Or.inl rfl) | exact Or.inr (Or.inr rfl)))) sos_nil)))) (.cons (.cons (.cons (.cons OsLen.nil)))))) (sos_cons (so_of (se_rd (i := 19) rfl (by first | exact Or.inl rfl | exact Or.inr (Or.inl rfl) | exact Or.inr (Or.inr rfl)))) sos_nil)) (.cons (.cons OsLen.nil)))))
  (sss_one (ss_ret se_bl))
  sss_nil)))))))
  (sss_cons (ss_par3 (i := 23) (j := 24) (l := 3) rfl sc_law.nd rfl rfl rfl (by decide) (by decide) (by decide) rfl rfl rfl (sfs_cons (se_callF A__law_draw (takes_of rfl rfl rfl rfl) (hr.mono (by decide)) (by rfl) (sos_cons (so_pk (i := 1) rfl (by first | exact Or.inl rfl | exact Or.inr (Or.inl rfl) | exact Or.inr (Or.inr rfl))) (sos_cons (so_of se_int) sos_nil)) (.cons (.cons OsLen.nil))) (sfs_cons (se_callF A__law_draw (takes_of rfl rfl rfl rfl) (hr.mono (by decide)) (by rfl) (sos_cons (so_pk (i := 1) rfl (by first | exact Or.inl rfl | exact Or.inr (Or.inl rfl) | exact Or.inr (Or.inr rfl))) (sos_cons (so_of se_int) sos_nil)) (.cons (.cons OsLen.nil))) (sfs_cons se_int sfs_nil))) (by rfl))
  (sss_cons (ss_for (is := [6]) (passes_of rfl) rfl (si_range1 (by rfl) T.b_range (sl_cons (sd_of (se_rd (i := 24) rfl (by first | exact Or.inl rfl | exact Or.inr (Or.inl rfl) | exact Or.inr (Or.inr rfl)))) sl_nil)) (sg_name (i := 6) sc_law.nd rfl (by first | exact Or.inl rfl | exact Or.inr rfl) (by decide)) (sss_one (ss_set (i := 3) sc_law.nd rfl (by first | exact Or.inl rfl | exact Or.inr rfl) (se_bin opr_mul f2_mul (so_pk (i := 3) rfl (by first | exact Or.inl rfl | exact Or.inr (Or.inl rfl) | exact Or.inr (Or.inr rfl))) (so_pk (i := 23) rfl (by first | exact Or.inl rfl | exact Or.inr (Or.inl rfl) | exact Or.inr (Or.inr rfl)))))))
  (sss_one (ss_ret (se_and (se_callF A__law_same (takes_of rfl rfl rfl rfl) (hr.mono (by decide)) (by rfl) (sos_cons (so_of (se_callF A_power (takes_of rfl rfl rfl rfl) (hr.mono (by decide)) (by rfl) (sos_cons (so_of (se_rd (i := 23) rfl (by first | exact Or.inl rfl | exact Or.inr (Or.inl rfl) | exact Or.inr (Or.inr rfl)))) (sos_cons (so_of (se_rd (i := 24) rfl (by first | exact Or.inl rfl | exact Or.inr (Or.inl rfl) | exact Or.inr (Or.inr rfl)))) sos_nil)) (.cons (.cons OsLen.nil)))) (sos_cons (so_of (se_rd (i := 3) rfl (by first | exact Or.inl rfl | exact Or.inr (Or.inl rfl) | exact Or.inr (Or.inr rfl)))) sos_nil)) (.cons (.cons OsLen.nil))) (se_and (se_cmp (op_eqA hr) f2_eq (nomark _) (so_of (se_callF A_mixtures (takes_of rfl rfl rfl rfl) (hr.mono (by decide)) (by rfl) (sos_cons (so_of (se_lst sl_nil)) sos_nil) (.cons OsLen.nil))) (so_of se_int)) (se_and (se_cmp (op_eqA hr) f2_eq (nomark _) (so_of (se_callF A_factorial (takes_of rfl rfl rfl rfl) (hr.mono (by decide)) (by rfl) (sos_cons (so_of se_int) sos_nil) (.cons OsLen.nil))) (so_of se_int)) (se_and (se_cmp (op_eqA hr) f2_eq (nomark _) (so_of (se_callF A_rises_of_counts (takes_of rfl rfl rfl rfl) (hr.mono (by decide)) (by rfl) (sos_cons (so_of (se_lst sl_nil)) sos_nil) (.cons OsLen.nil))) (so_of (se_lst sl_nil))) (se_one (se_cmp (op_eqA hr) f2_eq (nomark _) (so_of (se_callF A_choose (takes_of rfl rfl rfl rfl) (hr.mono (by decide)) (by rfl) (sos_cons (so_of se_int) (sos_cons (so_of se_int) sos_nil)) (.cons (.cons OsLen.nil)))) (so_of se_int))))))))))))))))))))))))))
theorem at_law (T : Top mg) (A_factorial : FnAt P w K mg base EX "factorial" 1 1 F_factorial) (A_choose : FnAt P w K mg base EX "choose" 1 2 F_choose) (A_mixtures : FnAt P w K mg base EX "mixtures" 2 1 F_mixtures) (A_rises_of_counts : FnAt P w K mg base EX "rises_of_counts" 1 1 F_rises_of_counts) (A_mixtures_at : FnAt P w K mg base EX "mixtures_at" 2 4 F_mixtures_at) (A_power : FnAt P w K mg base EX "power" 1 2 F_power) (A__law_box : FnAt P w K mg base EX "_law_box" 1 1 F__law_box) (A__law_draw : FnAt P w K mg base EX "_law_draw" 1 2 F__law_draw) (A__law_same : FnAt P w K mg base EX "_law_same" 71 2 (F__law_same 70)) (A__law_rows : FnAt P w K mg base EX "_law_rows" 1 2 F__law_rows) (t : FT K mg "law" s_law ["script"]) : FnAt P w K mg base EX "law" 72 1 F_law := t.at fun F => ok_law T A_factorial A_choose A_mixtures A_rises_of_counts A_mixtures_at A_power A__law_box A__law_draw A__law_same A__law_rows F
end
theorem all_mk {P : Program} {w : World} {K : PySem.W.Frag} {h : Heap} {mg : Str → Option Value} {fa : Addr} (X : K.In h) (G : h.Ns mainGlobals mg) (hfa : mg "law" = some (.ref fa))
    {f0 f1 f2 f3 f4 f5 f6 f7 f8 f9 f10 : Addr} {od0 an0 od1 an1 od2 an2 od3 an3 od4 an4 od5 an5 od6 an6 od7 an7 od8 an8 od9 an9 od10 an10 : Option Addr} {sl0 sl1 sl2 sl3 sl4 sl5 sl6 sl7 sl8 sl9 sl10 : Array (Option Value)} {oc0 kV0 dc0 pm0 cd0 ct0 oc1 kV1 dc1 pm1 cd1 ct1 oc2 kV2 dc2 pm2 cd2 ct2 oc3 kV3 dc3 pm3 cd3 ct3 oc4 kV4 dc4 pm4 cd4 ct4 oc5 kV5 dc5 pm5 cd5 ct5 oc6 kV6 dc6 pm6 cd6 ct6 oc7 kV7 dc7 pm7 cd7 ct7 oc8 kV8 dc8 pm8 cd8 ct8 oc9 kV9 dc9 pm9 cd9 ct9 oc10 kV10 dc10 pm10 cd10 ct10 : Value}
    (a0 : PySem.W.nsIn K mainGlobals "factorial" = some (some (.ref f0))) (l0 : K.lookup f0 = some ⟨oc0, od0, .func (PySem.W.fnOf "factorial" "factorial" (defArgs s_factorial) (defBody s_factorial) (defScope s_factorial) .none kV0 dc0 pm0 an0 cd0 ct0), sl0⟩) (c0 : PySem.W.codeIn K cd0 "factorial" = true) (k0 : PySem.W.keepIn K (.ref f0) = true)
    (a1 : PySem.W.nsIn K mainGlobals "choose" = some (some (.ref f1))) (l1 : K.lookup f1 = some ⟨oc1, od1, .func (PySem.W.fnOf "choose" "choose" (defArgs s_choose) (defBody s_choose) (defScope s_choose) .none kV1 dc1 pm1 an1 cd1 ct1), sl1⟩) (c1 : PySem.W.codeIn K cd1 "choose" = true) (k1 : PySem.W.keepIn K (.ref f1) = true)
    (a2 : PySem.W.nsIn K mainGlobals "mixtures" = some (some (.ref f2))) (l2 : K.lookup f2 = some ⟨oc2, od2, .func (PySem.W.fnOf "mixtures" "mixtures" (defArgs s_mixtures) (defBody s_mixtures) (defScope s_mixtures) .none kV2 dc2 pm2 an2 cd2 ct2), sl2⟩) (c2 : PySem.W.codeIn K cd2 "mixtures" = true) (k2 : PySem.W.keepIn K (.ref f2) = true)
    (a3 : PySem.W.nsIn K mainGlobals "rises_of_counts" = some (some (.ref f3))) (l3 : K.lookup f3 = some ⟨oc3, od3, .func (PySem.W.fnOf "rises_of_counts" "rises_of_counts" (defArgs s_rises_of_counts) (defBody s_rises_of_counts) (defScope s_rises_of_counts) .none kV3 dc3 pm3 an3 cd3 ct3), sl3⟩) (c3 : PySem.W.codeIn K cd3 "rises_of_counts" = true) (k3 : PySem.W.keepIn K (.ref f3) = true)
    (a4 : PySem.W.nsIn K mainGlobals "mixtures_at" = some (some (.ref f4))) (l4 : K.lookup f4 = some ⟨oc4, od4, .func (PySem.W.fnOf "mixtures_at" "mixtures_at" (defArgs s_mixtures_at) (defBody s_mixtures_at) (defScope s_mixtures_at) .none kV4 dc4 pm4 an4 cd4 ct4), sl4⟩) (c4 : PySem.W.codeIn K cd4 "mixtures_at" = true) (k4 : PySem.W.keepIn K (.ref f4) = true)
    (a5 : PySem.W.nsIn K mainGlobals "power" = some (some (.ref f5))) (l5 : K.lookup f5 = some ⟨oc5, od5, .func (PySem.W.fnOf "power" "power" (defArgs s_power) (defBody s_power) (defScope s_power) .none kV5 dc5 pm5 an5 cd5 ct5), sl5⟩) (c5 : PySem.W.codeIn K cd5 "power" = true) (k5 : PySem.W.keepIn K (.ref f5) = true)
    (a6 : PySem.W.nsIn K mainGlobals "_law_box" = some (some (.ref f6))) (l6 : K.lookup f6 = some ⟨oc6, od6, .func (PySem.W.fnOf "_law_box" "_law_box" (defArgs s__law_box) (defBody s__law_box) (defScope s__law_box) .none kV6 dc6 pm6 an6 cd6 ct6), sl6⟩) (c6 : PySem.W.codeIn K cd6 "_law_box" = true) (k6 : PySem.W.keepIn K (.ref f6) = true)
    (a7 : PySem.W.nsIn K mainGlobals "_law_draw" = some (some (.ref f7))) (l7 : K.lookup f7 = some ⟨oc7, od7, .func (PySem.W.fnOf "_law_draw" "_law_draw" (defArgs s__law_draw) (defBody s__law_draw) (defScope s__law_draw) .none kV7 dc7 pm7 an7 cd7 ct7), sl7⟩) (c7 : PySem.W.codeIn K cd7 "_law_draw" = true) (k7 : PySem.W.keepIn K (.ref f7) = true)
    (a8 : PySem.W.nsIn K mainGlobals "_law_same" = some (some (.ref f8))) (l8 : K.lookup f8 = some ⟨oc8, od8, .func (PySem.W.fnOf "_law_same" "_law_same" (defArgs s__law_same) (defBody s__law_same) (defScope s__law_same) .none kV8 dc8 pm8 an8 cd8 ct8), sl8⟩) (c8 : PySem.W.codeIn K cd8 "_law_same" = true) (k8 : PySem.W.keepIn K (.ref f8) = true)
    (a9 : PySem.W.nsIn K mainGlobals "_law_rows" = some (some (.ref f9))) (l9 : K.lookup f9 = some ⟨oc9, od9, .func (PySem.W.fnOf "_law_rows" "_law_rows" (defArgs s__law_rows) (defBody s__law_rows) (defScope s__law_rows) .none kV9 dc9 pm9 an9 cd9 ct9), sl9⟩) (c9 : PySem.W.codeIn K cd9 "_law_rows" = true) (k9 : PySem.W.keepIn K (.ref f9) = true)
    (a10 : PySem.W.nsIn K mainGlobals "law" = some (some (.ref f10))) (l10 : K.lookup f10 = some ⟨oc10, od10, .func (PySem.W.fnOf "law" "law" (defArgs s_law) (defBody s_law) (defScope s_law) .none kV10 dc10 pm10 an10 cd10 ct10), sl10⟩) (c10 : PySem.W.codeIn K cd10 "law" = true) (k10 : PySem.W.keepIn K (.ref f10) = true)
    (z0 : PySem.W.nsIn K mainGlobals "bool" = some none)
    (z1 : PySem.W.nsIn K mainGlobals "int" = some none)
    (z2 : PySem.W.nsIn K mainGlobals "isinstance" = some none)
    (z3 : PySem.W.nsIn K mainGlobals "len" = some none)
    (z4 : PySem.W.nsIn K mainGlobals "list" = some none)
    (z5 : PySem.W.nsIn K mainGlobals "range" = some none)
    (z6 : PySem.W.nsIn K mainGlobals "sum" = some none)
    (z7 : PySem.W.nsIn K mainGlobals "tuple" = some none)
    (z8 : PySem.W.nsIn K mainGlobals "zip" = some none) :
    ∃ fd : FuncData, (∀ (s : Shared) (v : Value), BindsTo s fd ⟨[v], []⟩ [("script", v)]) ∧ ∀ base : Heap, K.In base → base.Ns mainGlobals mg → FnOk P w K mg base (L2.CX P w) 72 fa fd ["script"] (spF K EX0 1 F_law) := by
  have e := hfa.symm.trans (PySem.W.mg_of X G a10)
  cases e
  have T : Top mg := ⟨PySem.W.mg_none_of X G z0, PySem.W.mg_none_of X G z1, PySem.W.mg_none_of X G z2, PySem.W.mg_none_of X G z3, PySem.W.mg_none_of X G z4, PySem.W.mg_none_of X G z5, PySem.W.mg_none_of X G z6, PySem.W.mg_none_of X G z7, PySem.W.mg_none_of X G z8⟩
  refine ⟨PySem.W.fnOf "law" "law" (defArgs s_law) (defBody s_law) (defScope s_law) .none kV10 dc10 pm10 an10 cd10 ct10, fun s v => .of_eq rfl, fun base _ _ => ?_⟩
  have A_factorial : FnAt P w K mg base EX0 "factorial" 1 1 F_factorial := (at_factorial T  (ft_mk (ps := ["number"]) (fun_mk (st := s_factorial) l0 c0 k0) (PySem.W.mg_of X G a0) k0 (fun _ _ _ _ _ _ us hl => match us, hl with | [_], _ => rfl)))
  have A_choose : FnAt P w K mg base EX0 "choose" 1 2 F_choose := (at_choose T  (ft_mk (ps := ["number", "count"]) (fun_mk (st := s_choose) l1 c1 k1) (PySem.W.mg_of X G a1) k1 (fun _ _ _ _ _ _ us hl => match us, hl with | [_, _], _ => rfl)))
  have A_mixtures : FnAt P w K mg base EX0 "mixtures" 2 1 F_mixtures := (at_mixtures T A_choose (ft_mk (ps := ["sizes"]) (fun_mk (st := s_mixtures) l2 c2 k2) (PySem.W.mg_of X G a2) k2 (fun _ _ _ _ _ _ us hl => match us, hl with | [_], _ => rfl)))
  have A_rises_of_counts : FnAt P w K mg base EX0 "rises_of_counts" 1 1 F_rises_of_counts := (at_rises_of_counts T  (ft_mk (ps := ["sizes"]) (fun_mk (st := s_rises_of_counts) l3 c3 k3) (PySem.W.mg_of X G a3) k3 (fun _ _ _ _ _ _ us hl => match us, hl with | [_], _ => rfl)))
  have A_mixtures_at : FnAt P w K mg base EX0 "mixtures_at" 2 4 F_mixtures_at := (at_mixtures_at T A_choose (ft_mk (ps := ["size", "other", "place", "before"]) (fun_mk (st := s_mixtures_at) l4 c4 k4) (PySem.W.mg_of X G a4) k4 (fun _ _ _ _ _ _ us hl => match us, hl with | [_, _, _, _], _ => rfl)))
  have A_power : FnAt P w K mg base EX0 "power" 1 2 F_power := (at_power T  (ft_mk (ps := ["base", "exponent"]) (fun_mk (st := s_power) l5 c5 k5) (PySem.W.mg_of X G a5) k5 (fun _ _ _ _ _ _ us hl => match us, hl with | [_, _], _ => rfl)))
  have A__law_box : FnAt P w K mg base EX0 "_law_box" 1 1 F__law_box := (at__law_box T  (ft_mk (ps := ["script"]) (fun_mk (st := s__law_box) l6 c6 k6) (PySem.W.mg_of X G a6) k6 (fun _ _ _ _ _ _ us hl => match us, hl with | [_], _ => rfl)))
  have A__law_draw : FnAt P w K mg base EX0 "_law_draw" 1 2 F__law_draw := (at__law_draw T  (ft_mk (ps := ["box", "limit"]) (fun_mk (st := s__law_draw) l7 c7 k7) (PySem.W.mg_of X G a7) k7 (fun _ _ _ _ _ _ us hl => match us, hl with | [_, _], _ => rfl)))
  have A__law_same : FnAt P w K mg base EX0 "_law_same" 71 2 (F__law_same 70) := (at__law_same T  (ft_mk (ps := ["one", "two"]) (fun_mk (st := s__law_same) l8 c8 k8) (PySem.W.mg_of X G a8) k8 (fun _ _ _ _ _ _ us hl => match us, hl with | [_, _], _ => rfl)) 70)
  have A__law_rows : FnAt P w K mg base EX0 "_law_rows" 1 2 F__law_rows := (at__law_rows T  (ft_mk (ps := ["size", "other"]) (fun_mk (st := s__law_rows) l9 c9 k9) (PySem.W.mg_of X G a9) k9 (fun _ _ _ _ _ _ us hl => match us, hl with | [_, _], _ => rfl)))
  exact ok_law T A_factorial A_choose A_mixtures A_rises_of_counts A_mixtures_at A_power A__law_box A__law_draw A__law_same A__law_rows (fun_mk (st := s_law) l10 c10 k10)
end G.K01
set_option exponentiation.threshold 3000
namespace G.K01
open PySem PySem.Spec PyProof.Rows L2
theorem e_box : F__law_box = C.F__law_box := rfl
theorem e_draw : F__law_draw = C.F__law_draw := rfl
theorem e_same : F__law_same = C.F__law_same := by
  funext n
  induction n with
  | zero => rfl
  | succ n ih =>
    show runB 4 (b__law_same (F__law_same n)) = runB 4 (C.b__law_same (C.F__law_same n))
    rw [ih]
    rfl
def fct : Nat → Nat
  | 0 => 1
  | n + 1 => fct n * (n + 1)
theorem fct_le : ∀ n, n ≤ 200 → fct n ≤ 2 ^ (8 * n)
  | 0, _ => by decide
  | n + 1, h => by
    have a := fct_le n (by omega)
    have : 2 ^ (8 * (n + 1)) = 2 ^ (8 * n) * 256 := by rw [show 8 * (n + 1) = 8 * n + 8 from by omega, Nat.pow_add]
    rw [this]
    exact Nat.mul_le_mul a (by omega)
theorem mulOk_nat {a b : Nat} {k : Nat} (h1 : a ≤ 2 ^ k) (hk : k ≤ 1500) (h2 : b ≤ 2 ^ 1500) : mulOk (a : Int) (b : Int) := by
  have e : (2 : Nat) ^ k ≤ 2 ^ 1500 := Nat.pow_le_pow_right (by decide) hk
  have e2 : (2 : Nat) ^ 1500 < 2 ^ 2000 := Nat.pow_lt_pow_right (by decide) (by decide)
  unfold mulOk
  rw [Int.natAbs_natCast, Int.natAbs_natCast]
  have l1 := log2_lt' (n := a) (k := 2000) (by omega) (by decide)
  have l2 := log2_lt' (n := b) (k := 2000) (by omega) (by decide)
  omega
theorem wp_factorial {n : Nat} (hn : n ≤ 150) {Q : D × Bool → SS → Prop} {E : Ex → SS → Prop} (q : Q (.int (fct n : Nat), false) [.v (.int (n : Int))]) : wp F_factorial [.v (.int (n : Int))] Q E := by
  unfold F_factorial b_factorial
  simp only [wp_ret, wp_stuck, wp_bnd, kb_ap, wp_lift, wo_some, wo_none, wo_ite, wo_map, wp_ite, ks_nx, ks_rt, ks_bk, ks_ct, wp_seq, wp_pk, kpk_v, kpk_ow, wp_rd, krd_v, krd_ow, wp_mv, kmv_v, kmv_ow, wp_cst, wp_use2, k2_ap, wp_op2, wp_use1, k1_ap, wp_op1, wp_useN, kN_ap, wp_opN, rsv_d, rsv_pk, ksv_v, ksv_ow, rsvs_nil, rsvs_cons, kcons_ap, wp_osN, wp_osC, wp_lsN, wp_lsC, wp_fsN, wp_fsC, wp_opd, wp_frz, wp_tupM, wp_lstM, wp_tst, ktst_bl, wp_notB, wp_andB, wp_orB, wp_andV, wp_orV, wp_notV, wp_ifE, wp_drop, wp_retM, wp_retN, fr_v, fr_un, fr_ow, pl_v, pl_un, fr_pl, frO_ap, plO_ap, slot_f, slot_t, wp_put, wp_setM, wp_parM, puts_nil, puts_cons, kt_ap, wt_N, wts_nil, wts_cons, wt_T, wp_setT, wp_tg, wp_appU, kap_ap, isL_ap, kapp_ap, wp_appE, wp_setP, kset_ap, wp_setIx, wp_setQ, wp_useF, kcall_ap, kpb_ap, kpe_ap, wp_callM, kargs_ap, argsOf_nil, argsOf_cons, argOf_d, argOf_pk, karg_v, karg_ow, pks_nil, pks_d, pks_pk, kpks_ow, kpks_v, nodupN_nil, nodupN_one, nodupN_cons, pb_nil, pb_d, pb_dU, pb_pk, kpbk_ap, kr_rt, kr_nx, kre_ap, wp_runB, back_nil, back_v, back_ow, wp_forM, wp_srcV, wp_srcA, kfor_nx, kfor_ct, kfor_bk, kfor_rt, wp_forGo_nil, wb_nil, npO_ap, wb_cons, wp_lcM, klc_ap, wp_lcB, kel_ap, kco_t, kco_f, kco_d, List.getElem?_cons_zero, List.getElem?_cons_succ, List.set_cons_zero, List.set_cons_succ, List.length_cons, List.length_nil, List.length_append, List.replicate_succ, List.replicate_zero, List.cons_append, List.nil_append, if_true, if_false, ite_true, ite_false, Bool.false_eq_true, true_and, and_true, decide_eq_true_eq, Bool.not_true, Bool.not_false, Bool.not_eq_true', decide_eq_false_iff_not, reduceIte, reduceCtorEq, Nat.zero_add, Nat.reduceAdd, Nat.reduceSub, List.contains_nil, List.contains_cons, Bool.and_true, Bool.or_false, Bool.and_self, beq_self_eq_true, Nat.reduceBEq, Nat.reduceEqDiff, Nat.succ_eq_add_one, rst, List.getD_cons_zero, List.getD_cons_succ, isF, lenF, listF, tupleF, o_int, o_inti, o_addl, o_addt, o_mulb, absF, minF, maxF, sumF, seqOf, eq_self, decide_true, decide_false, not_true_eq_false, not_false_eq_true, Bool.or_true, Bool.true_or, Bool.false_or, Bool.true_and, Bool.false_and, Bool.and_false, Option.map_some, Option.map_none, bne_f, bne_t, dec_not, fr_pl, nums_int, List.length_map, o_lt, o_le, o_gt, o_ge, o_add, o_sub, o_mul, o_div, o_mod, o_pow, o_rng1, o_rng2, at_0, at_1, at_2, at_3, at_4, at_5, at_nat, ix_0, ix_1, ix_2, ix_3, idx_l, idx_t, o_eq, o_eqb, small_nil, small_c1, small_c2, small_c3, small_c4, small_c5, small_c6, o_isi, ty_int_non, ty_int_bl, ty_int_int, ty_int_str, ty_int_tup, ty_int_lst, ty_int_dic, ty_int_set, ty_bool_non, ty_bool_bl, ty_bool_int, ty_bool_str, ty_bool_tup, ty_bool_lst, ty_bool_dic, ty_bool_set, ty_str_non, ty_str_bl, ty_str_int, ty_str_str, ty_str_tup, ty_str_lst, ty_str_dic, ty_str_set, ty_tuple_non, ty_tuple_bl, ty_tuple_int, ty_tuple_str, ty_tuple_tup, ty_tuple_lst, ty_tuple_dic, ty_tuple_set, ty_list_non, ty_list_bl, ty_list_int, ty_list_str, ty_list_tup, ty_list_lst, ty_list_dic, ty_list_set, ty_dict_non, ty_dict_bl, ty_dict_int, ty_dict_str, ty_dict_tup, ty_dict_lst, ty_dict_dic, ty_dict_set, ty_set_non, ty_set_bl, ty_set_int, ty_set_str, ty_set_tup, ty_set_lst, ty_set_dic, ty_set_set]
  refine ⟨inB_of (by omega) (by omega), inB_of (by omega) (by omega), ?_⟩
  refine wp_for (fun i st => ∃ x, st = [.v (.int (n : Int)), .v (.int (fct (i + 1) : Nat)), x] ∧ pl x = true) ⟨_, rfl, rfl⟩ (fun i d st e h => ?_) fun st h => ?_
  · obtain ⟨x, rfl, hx⟩ := h
    obtain ⟨hi, rfl⟩ := intsF_get e
    simp only [wp_ret, wp_stuck, wp_bnd, kb_ap, wp_lift, wo_some, wo_none, wo_ite, wo_map, wp_ite, ks_nx, ks_rt, ks_bk, ks_ct, wp_seq, wp_pk, kpk_v, kpk_ow, wp_rd, krd_v, krd_ow, wp_mv, kmv_v, kmv_ow, wp_cst, wp_use2, k2_ap, wp_op2, wp_use1, k1_ap, wp_op1, wp_useN, kN_ap, wp_opN, rsv_d, rsv_pk, ksv_v, ksv_ow, rsvs_nil, rsvs_cons, kcons_ap, wp_osN, wp_osC, wp_lsN, wp_lsC, wp_fsN, wp_fsC, wp_opd, wp_frz, wp_tupM, wp_lstM, wp_tst, ktst_bl, wp_notB, wp_andB, wp_orB, wp_andV, wp_orV, wp_notV, wp_ifE, wp_drop, wp_retM, wp_retN, fr_v, fr_un, fr_ow, pl_v, pl_un, fr_pl, frO_ap, plO_ap, slot_f, slot_t, wp_put, wp_setM, wp_parM, puts_nil, puts_cons, kt_ap, wt_N, wts_nil, wts_cons, wt_T, wp_setT, wp_tg, wp_appU, kap_ap, isL_ap, kapp_ap, wp_appE, wp_setP, kset_ap, wp_setIx, wp_setQ, wp_useF, kcall_ap, kpb_ap, kpe_ap, wp_callM, kargs_ap, argsOf_nil, argsOf_cons, argOf_d, argOf_pk, karg_v, karg_ow, pks_nil, pks_d, pks_pk, kpks_ow, kpks_v, nodupN_nil, nodupN_one, nodupN_cons, pb_nil, pb_d, pb_dU, pb_pk, kpbk_ap, kr_rt, kr_nx, kre_ap, wp_runB, back_nil, back_v, back_ow, wp_forM, wp_srcV, wp_srcA, kfor_nx, kfor_ct, kfor_bk, kfor_rt, wp_forGo_nil, wb_nil, npO_ap, wb_cons, wp_lcM, klc_ap, wp_lcB, kel_ap, kco_t, kco_f, kco_d, List.getElem?_cons_zero, List.getElem?_cons_succ, List.set_cons_zero, List.set_cons_succ, List.length_cons, List.length_nil, List.length_append, List.replicate_succ, List.replicate_zero, List.cons_append, List.nil_append, if_true, if_false, ite_true, ite_false, Bool.false_eq_true, true_and, and_true, decide_eq_true_eq, Bool.not_true, Bool.not_false, Bool.not_eq_true', decide_eq_false_iff_not, reduceIte, reduceCtorEq, Nat.zero_add, Nat.reduceAdd, Nat.reduceSub, List.contains_nil, List.contains_cons, Bool.and_true, Bool.or_false, Bool.and_self, beq_self_eq_true, Nat.reduceBEq, Nat.reduceEqDiff, Nat.succ_eq_add_one, rst, List.getD_cons_zero, List.getD_cons_succ, isF, lenF, listF, tupleF, o_int, o_inti, o_addl, o_addt, o_mulb, absF, minF, maxF, sumF, seqOf, eq_self, decide_true, decide_false, not_true_eq_false, not_false_eq_true, Bool.or_true, Bool.true_or, Bool.false_or, Bool.true_and, Bool.false_and, Bool.and_false, Option.map_some, Option.map_none, bne_f, bne_t, dec_not, fr_pl, nums_int, List.length_map, o_lt, o_le, o_gt, o_ge, o_add, o_sub, o_mul, o_div, o_mod, o_pow, o_rng1, o_rng2, at_0, at_1, at_2, at_3, at_4, at_5, at_nat, ix_0, ix_1, ix_2, ix_3, idx_l, idx_t, o_eq, o_eqb, small_nil, small_c1, small_c2, small_c3, small_c4, small_c5, small_c6, o_isi, ty_int_non, ty_int_bl, ty_int_int, ty_int_str, ty_int_tup, ty_int_lst, ty_int_dic, ty_int_set, ty_bool_non, ty_bool_bl, ty_bool_int, ty_bool_str, ty_bool_tup, ty_bool_lst, ty_bool_dic, ty_bool_set, ty_str_non, ty_str_bl, ty_str_int, ty_str_str, ty_str_tup, ty_str_lst, ty_str_dic, ty_str_set, ty_tuple_non, ty_tuple_bl, ty_tuple_int, ty_tuple_str, ty_tuple_tup, ty_tuple_lst, ty_tuple_dic, ty_tuple_set, ty_list_non, ty_list_bl, ty_list_int, ty_list_str, ty_list_tup, ty_list_lst, ty_list_dic, ty_list_set, ty_dict_non, ty_dict_bl, ty_dict_int, ty_dict_str, ty_dict_tup, ty_dict_lst, ty_dict_dic, ty_dict_set, ty_set_non, ty_set_bl, ty_set_int, ty_set_str, ty_set_tup, ty_set_lst, ty_set_dic, ty_set_set, hx]
    have this : ((fct (i + 1 + 1) : Nat) : Int) = (fct (i + 1) : Nat) * (2 + (i : Int)) := by
      show ((fct (i + 1) * (i + 1 + 1) : Nat) : Int) = _
      push_cast
      congr 1
      omega
    refine ⟨?_, _, by rw [this], rfl⟩
    have := mulOk_nat (a := fct (i + 1)) (b := 2 + i) (fct_le (i + 1) (by omega)) (by omega) (by have : 2 + i ≤ 2 ^ 10 := by omega
                                                                                                 exact Nat.le_trans this (Nat.pow_le_pow_right (by decide) (by decide)))
    simpa using this
  · obtain ⟨x, rfl, hx⟩ := h
    simp only [wp_ret, wp_stuck, wp_bnd, kb_ap, wp_lift, wo_some, wo_none, wo_ite, wo_map, wp_ite, ks_nx, ks_rt, ks_bk, ks_ct, wp_seq, wp_pk, kpk_v, kpk_ow, wp_rd, krd_v, krd_ow, wp_mv, kmv_v, kmv_ow, wp_cst, wp_use2, k2_ap, wp_op2, wp_use1, k1_ap, wp_op1, wp_useN, kN_ap, wp_opN, rsv_d, rsv_pk, ksv_v, ksv_ow, rsvs_nil, rsvs_cons, kcons_ap, wp_osN, wp_osC, wp_lsN, wp_lsC, wp_fsN, wp_fsC, wp_opd, wp_frz, wp_tupM, wp_lstM, wp_tst, ktst_bl, wp_notB, wp_andB, wp_orB, wp_andV, wp_orV, wp_notV, wp_ifE, wp_drop, wp_retM, wp_retN, fr_v, fr_un, fr_ow, pl_v, pl_un, fr_pl, frO_ap, plO_ap, slot_f, slot_t, wp_put, wp_setM, wp_parM, puts_nil, puts_cons, kt_ap, wt_N, wts_nil, wts_cons, wt_T, wp_setT, wp_tg, wp_appU, kap_ap, isL_ap, kapp_ap, wp_appE, wp_setP, kset_ap, wp_setIx, wp_setQ, wp_useF, kcall_ap, kpb_ap, kpe_ap, wp_callM, kargs_ap, argsOf_nil, argsOf_cons, argOf_d, argOf_pk, karg_v, karg_ow, pks_nil, pks_d, pks_pk, kpks_ow, kpks_v, nodupN_nil, nodupN_one, nodupN_cons, pb_nil, pb_d, pb_dU, pb_pk, kpbk_ap, kr_rt, kr_nx, kre_ap, wp_runB, back_nil, back_v, back_ow, wp_forM, wp_srcV, wp_srcA, kfor_nx, kfor_ct, kfor_bk, kfor_rt, wp_forGo_nil, wb_nil, npO_ap, wb_cons, wp_lcM, klc_ap, wp_lcB, kel_ap, kco_t, kco_f, kco_d, List.getElem?_cons_zero, List.getElem?_cons_succ, List.set_cons_zero, List.set_cons_succ, List.length_cons, List.length_nil, List.length_append, List.replicate_succ, List.replicate_zero, List.cons_append, List.nil_append, if_true, if_false, ite_true, ite_false, Bool.false_eq_true, true_and, and_true, decide_eq_true_eq, Bool.not_true, Bool.not_false, Bool.not_eq_true', decide_eq_false_iff_not, reduceIte, reduceCtorEq, Nat.zero_add, Nat.reduceAdd, Nat.reduceSub, List.contains_nil, List.contains_cons, Bool.and_true, Bool.or_false, Bool.and_self, beq_self_eq_true, Nat.reduceBEq, Nat.reduceEqDiff, Nat.succ_eq_add_one, rst, List.getD_cons_zero, List.getD_cons_succ, isF, lenF, listF, tupleF, o_int, o_inti, o_addl, o_addt, o_mulb, absF, minF, maxF, sumF, seqOf, eq_self, decide_true, decide_false, not_true_eq_false, not_false_eq_true, Bool.or_true, Bool.true_or, Bool.false_or, Bool.true_and, Bool.false_and, Bool.and_false, Option.map_some, Option.map_none, bne_f, bne_t, dec_not, fr_pl, nums_int, List.length_map, o_lt, o_le, o_gt, o_ge, o_add, o_sub, o_mul, o_div, o_mod, o_pow, o_rng1, o_rng2, at_0, at_1, at_2, at_3, at_4, at_5, at_nat, ix_0, ix_1, ix_2, ix_3, idx_l, idx_t, o_eq, o_eqb, small_nil, small_c1, small_c2, small_c3, small_c4, small_c5, small_c6, o_isi, ty_int_non, ty_int_bl, ty_int_int, ty_int_str, ty_int_tup, ty_int_lst, ty_int_dic, ty_int_set, ty_bool_non, ty_bool_bl, ty_bool_int, ty_bool_str, ty_bool_tup, ty_bool_lst, ty_bool_dic, ty_bool_set, ty_str_non, ty_str_bl, ty_str_int, ty_str_str, ty_str_tup, ty_str_lst, ty_str_dic, ty_str_set, ty_tuple_non, ty_tuple_bl, ty_tuple_int, ty_tuple_str, ty_tuple_tup, ty_tuple_lst, ty_tuple_dic, ty_tuple_set, ty_list_non, ty_list_bl, ty_list_int, ty_list_str, ty_list_tup, ty_list_lst, ty_list_dic, ty_list_set, ty_dict_non, ty_dict_bl, ty_dict_int, ty_dict_str, ty_dict_tup, ty_dict_lst, ty_dict_dic, ty_dict_set, ty_set_non, ty_set_bl, ty_set_int, ty_set_str, ty_set_tup, ty_set_lst, ty_set_dic, ty_set_set]
    rw [intsF_len]
    have : fct ((↑n + 1 - 2 : Int).toNat + 1) = fct n := by
      cases n with
      | zero => rfl
      | succ m =>
        congr 1
        omega
    rw [this]
    exact q
/-! binomials -/
def bin : Nat → Nat → Nat
  | _, 0 => 1
  | 0, _ + 1 => 0
  | n + 1, k + 1 => bin n k + bin n (k + 1)
theorem bin_0 (n : Nat) : bin n 0 = 1 := by cases n <;> rfl
theorem bin_gt : ∀ n k, n < k → bin n k = 0
  | 0, 0, h => by omega
  | 0, k + 1, _ => rfl
  | n + 1, 0, h => by omega
  | n + 1, k + 1, h => by
    show bin n k + bin n (k + 1) = 0
    rw [bin_gt n k (by omega), bin_gt n (k + 1) (by omega)]
theorem bin_le : ∀ n k, bin n k ≤ 2 ^ n
  | 0, 0 => by decide
  | 0, k + 1 => by show 0 ≤ _; omega
  | n + 1, 0 => by rw [bin_0]; exact Nat.one_le_two_pow
  | n + 1, k + 1 => by
    have := bin_le n k
    have := bin_le n (k + 1)
    show bin n k + bin n (k + 1) ≤ _
    rw [Nat.pow_succ]
    omega
theorem bin_up : ∀ n k, (n + 1) * bin n k = (k + 1) * bin (n + 1) (k + 1)
  | 0, 0 => rfl
  | 0, k + 1 => by
    show 1 * 0 = (k + 2) * (bin 0 (k + 1) + bin 0 (k + 2))
    rw [bin_gt 0 (k + 1) (by omega), bin_gt 0 (k + 2) (by omega)]
    omega
  | n + 1, 0 => by
    have a : (n + 1) * bin n 0 = 1 * bin (n + 1) 1 := bin_up n 0
    rw [bin_0] at a
    show (n + 2) * bin (n + 1) 0 = 1 * (bin (n + 1) 0 + bin (n + 1) 1)
    rw [bin_0]
    omega
  | n + 1, k + 1 => by
    have a := bin_up n k
    have b : (n + 1) * bin n (k + 1) = (k + 2) * bin (n + 1) (k + 2) := bin_up n (k + 1)
    have c : bin (n + 1) (k + 1) = bin n k + bin n (k + 1) := rfl
    have d : bin (n + 2) (k + 2) = bin (n + 1) (k + 1) + bin (n + 1) (k + 2) := rfl
    have e : (n + 1 + 1) * bin (n + 1) (k + 1) = (n + 1) * bin n k + (n + 1) * bin n (k + 1) + bin (n + 1) (k + 1) := by
      rw [Nat.add_mul (n + 1) 1, Nat.one_mul]
      conv => lhs; rw [c, Nat.mul_add]
      rw [c]
    rw [e, a, b]
    show _ = (k + 2) * bin (n + 2) (k + 2)
    rw [d, Nat.mul_add, Nat.add_mul k 2 (bin (n + 1) (k + 1)), Nat.add_mul k 1 (bin (n + 1) (k + 1))]
    show k * bin (n + 1) (k + 1) + 1 * bin (n + 1) (k + 1) + (k + 2) * bin (n + 1) (k + 2) + bin (n + 1) (k + 1) = _
    omega
theorem bin_row (n k : Nat) : (k + 1) * bin n (k + 1) + k * bin n k = n * bin n k := by
  have a := bin_up n k
  have c : bin (n + 1) (k + 1) = bin n k + bin n (k + 1) := rfl
  rw [c, Nat.mul_add, Nat.add_mul k 1 (bin n k), Nat.add_mul n 1 (bin n k)] at a
  omega
theorem bin_step {n k : Nat} (h : k ≤ n) : (bin n k : Int) * ((n : Int) - (k : Int)) / ((k : Int) + 1) = (bin n (k + 1) : Nat) := by
  have a := bin_row n k
  have a2 : ((k : Int) + 1) * (bin n (k + 1) : Nat) + (k : Int) * (bin n k : Nat) = (n : Int) * (bin n k : Nat) := by exact_mod_cast a
  have b : (bin n k : Int) * ((n : Int) - (k : Int)) = ((k : Int) + 1) * (bin n (k + 1) : Nat) := by
    rw [Int.mul_sub, Int.mul_comm _ (n : Int), Int.mul_comm _ (k : Int)]
    omega
  rw [b]
  exact Int.mul_ediv_cancel_left _ (by omega)
theorem wp_choose {n k : Nat} (hn : n ≤ 150) (hk : k ≤ n) {Q : D × Bool → SS → Prop} {E : Ex → SS → Prop} (q : Q (.int (bin n k : Nat), false) [.v (.int (n : Int)), .v (.int (k : Int))]) : wp F_choose [.v (.int (n : Int)), .v (.int (k : Int))] Q E := by
  unfold F_choose b_choose
  have h1 : ¬ (k : Int) < 0 := by omega
  have h2 : ¬ (n : Int) < k := by omega
  simp only [wp_ret, wp_stuck, wp_bnd, kb_ap, wp_lift, wo_some, wo_none, wo_ite, wo_map, wp_ite, ks_nx, ks_rt, ks_bk, ks_ct, wp_seq, wp_pk, kpk_v, kpk_ow, wp_rd, krd_v, krd_ow, wp_mv, kmv_v, kmv_ow, wp_cst, wp_use2, k2_ap, wp_op2, wp_use1, k1_ap, wp_op1, wp_useN, kN_ap, wp_opN, rsv_d, rsv_pk, ksv_v, ksv_ow, rsvs_nil, rsvs_cons, kcons_ap, wp_osN, wp_osC, wp_lsN, wp_lsC, wp_fsN, wp_fsC, wp_opd, wp_frz, wp_tupM, wp_lstM, wp_tst, ktst_bl, wp_notB, wp_andB, wp_orB, wp_andV, wp_orV, wp_notV, wp_ifE, wp_drop, wp_retM, wp_retN, fr_v, fr_un, fr_ow, pl_v, pl_un, fr_pl, frO_ap, plO_ap, slot_f, slot_t, wp_put, wp_setM, wp_parM, puts_nil, puts_cons, kt_ap, wt_N, wts_nil, wts_cons, wt_T, wp_setT, wp_tg, wp_appU, kap_ap, isL_ap, kapp_ap, wp_appE, wp_setP, kset_ap, wp_setIx, wp_setQ, wp_useF, kcall_ap, kpb_ap, kpe_ap, wp_callM, kargs_ap, argsOf_nil, argsOf_cons, argOf_d, argOf_pk, karg_v, karg_ow, pks_nil, pks_d, pks_pk, kpks_ow, kpks_v, nodupN_nil, nodupN_one, nodupN_cons, pb_nil, pb_d, pb_dU, pb_pk, kpbk_ap, kr_rt, kr_nx, kre_ap, wp_runB, back_nil, back_v, back_ow, wp_forM, wp_srcV, wp_srcA, kfor_nx, kfor_ct, kfor_bk, kfor_rt, wp_forGo_nil, wb_nil, npO_ap, wb_cons, wp_lcM, klc_ap, wp_lcB, kel_ap, kco_t, kco_f, kco_d, List.getElem?_cons_zero, List.getElem?_cons_succ, List.set_cons_zero, List.set_cons_succ, List.length_cons, List.length_nil, List.length_append, List.replicate_succ, List.replicate_zero, List.cons_append, List.nil_append, if_true, if_false, ite_true, ite_false, Bool.false_eq_true, true_and, and_true, decide_eq_true_eq, Bool.not_true, Bool.not_false, Bool.not_eq_true', decide_eq_false_iff_not, reduceIte, reduceCtorEq, Nat.zero_add, Nat.reduceAdd, Nat.reduceSub, List.contains_nil, List.contains_cons, Bool.and_true, Bool.or_false, Bool.and_self, beq_self_eq_true, Nat.reduceBEq, Nat.reduceEqDiff, Nat.succ_eq_add_one, rst, List.getD_cons_zero, List.getD_cons_succ, isF, lenF, listF, tupleF, o_int, o_inti, o_addl, o_addt, o_mulb, absF, minF, maxF, sumF, seqOf, eq_self, decide_true, decide_false, not_true_eq_false, not_false_eq_true, Bool.or_true, Bool.true_or, Bool.false_or, Bool.true_and, Bool.false_and, Bool.and_false, Option.map_some, Option.map_none, bne_f, bne_t, dec_not, fr_pl, nums_int, List.length_map, o_lt, o_le, o_gt, o_ge, o_add, o_sub, o_mul, o_div, o_mod, o_pow, o_rng1, o_rng2, at_0, at_1, at_2, at_3, at_4, at_5, at_nat, ix_0, ix_1, ix_2, ix_3, idx_l, idx_t, o_eq, o_eqb, small_nil, small_c1, small_c2, small_c3, small_c4, small_c5, small_c6, o_isi, ty_int_non, ty_int_bl, ty_int_int, ty_int_str, ty_int_tup, ty_int_lst, ty_int_dic, ty_int_set, ty_bool_non, ty_bool_bl, ty_bool_int, ty_bool_str, ty_bool_tup, ty_bool_lst, ty_bool_dic, ty_bool_set, ty_str_non, ty_str_bl, ty_str_int, ty_str_str, ty_str_tup, ty_str_lst, ty_str_dic, ty_str_set, ty_tuple_non, ty_tuple_bl, ty_tuple_int, ty_tuple_str, ty_tuple_tup, ty_tuple_lst, ty_tuple_dic, ty_tuple_set, ty_list_non, ty_list_bl, ty_list_int, ty_list_str, ty_list_tup, ty_list_lst, ty_list_dic, ty_list_set, ty_dict_non, ty_dict_bl, ty_dict_int, ty_dict_str, ty_dict_tup, ty_dict_lst, ty_dict_dic, ty_dict_set, ty_set_non, ty_set_bl, ty_set_int, ty_set_str, ty_set_tup, ty_set_lst, ty_set_dic, ty_set_set, h1, h2]
  refine ⟨inB_of (by omega) (by omega), ?_⟩
  refine wp_for (fun i st => ∃ x, st = [.v (.int (n : Int)), .v (.int (k : Int)), .v (.int (bin n i : Nat)), x] ∧ pl x = true) ⟨_, by rw [bin_0]; rfl, rfl⟩ (fun i d st e h => ?_) fun st h => ?_
  · obtain ⟨x, rfl, hx⟩ := h
    obtain ⟨hi, rfl⟩ := intsF_get e
    simp only [wp_ret, wp_stuck, wp_bnd, kb_ap, wp_lift, wo_some, wo_none, wo_ite, wo_map, wp_ite, ks_nx, ks_rt, ks_bk, ks_ct, wp_seq, wp_pk, kpk_v, kpk_ow, wp_rd, krd_v, krd_ow, wp_mv, kmv_v, kmv_ow, wp_cst, wp_use2, k2_ap, wp_op2, wp_use1, k1_ap, wp_op1, wp_useN, kN_ap, wp_opN, rsv_d, rsv_pk, ksv_v, ksv_ow, rsvs_nil, rsvs_cons, kcons_ap, wp_osN, wp_osC, wp_lsN, wp_lsC, wp_fsN, wp_fsC, wp_opd, wp_frz, wp_tupM, wp_lstM, wp_tst, ktst_bl, wp_notB, wp_andB, wp_orB, wp_andV, wp_orV, wp_notV, wp_ifE, wp_drop, wp_retM, wp_retN, fr_v, fr_un, fr_ow, pl_v, pl_un, fr_pl, frO_ap, plO_ap, slot_f, slot_t, wp_put, wp_setM, wp_parM, puts_nil, puts_cons, kt_ap, wt_N, wts_nil, wts_cons, wt_T, wp_setT, wp_tg, wp_appU, kap_ap, isL_ap, kapp_ap, wp_appE, wp_setP, kset_ap, wp_setIx, wp_setQ, wp_useF, kcall_ap, kpb_ap, kpe_ap, wp_callM, kargs_ap, argsOf_nil, argsOf_cons, argOf_d, argOf_pk, karg_v, karg_ow, pks_nil, pks_d, pks_pk, kpks_ow, kpks_v, nodupN_nil, nodupN_one, nodupN_cons, pb_nil, pb_d, pb_dU, pb_pk, kpbk_ap, kr_rt, kr_nx, kre_ap, wp_runB, back_nil, back_v, back_ow, wp_forM, wp_srcV, wp_srcA, kfor_nx, kfor_ct, kfor_bk, kfor_rt, wp_forGo_nil, wb_nil, npO_ap, wb_cons, wp_lcM, klc_ap, wp_lcB, kel_ap, kco_t, kco_f, kco_d, List.getElem?_cons_zero, List.getElem?_cons_succ, List.set_cons_zero, List.set_cons_succ, List.length_cons, List.length_nil, List.length_append, List.replicate_succ, List.replicate_zero, List.cons_append, List.nil_append, if_true, if_false, ite_true, ite_false, Bool.false_eq_true, true_and, and_true, decide_eq_true_eq, Bool.not_true, Bool.not_false, Bool.not_eq_true', decide_eq_false_iff_not, reduceIte, reduceCtorEq, Nat.zero_add, Nat.reduceAdd, Nat.reduceSub, List.contains_nil, List.contains_cons, Bool.and_true, Bool.or_false, Bool.and_self, beq_self_eq_true, Nat.reduceBEq, Nat.reduceEqDiff, Nat.succ_eq_add_one, rst, List.getD_cons_zero, List.getD_cons_succ, isF, lenF, listF, tupleF, o_int, o_inti, o_addl, o_addt, o_mulb, absF, minF, maxF, sumF, seqOf, eq_self, decide_true, decide_false, not_true_eq_false, not_false_eq_true, Bool.or_true, Bool.true_or, Bool.false_or, Bool.true_and, Bool.false_and, Bool.and_false, Option.map_some, Option.map_none, bne_f, bne_t, dec_not, fr_pl, nums_int, List.length_map, o_lt, o_le, o_gt, o_ge, o_add, o_sub, o_mul, o_div, o_mod, o_pow, o_rng1, o_rng2, at_0, at_1, at_2, at_3, at_4, at_5, at_nat, ix_0, ix_1, ix_2, ix_3, idx_l, idx_t, o_eq, o_eqb, small_nil, small_c1, small_c2, small_c3, small_c4, small_c5, small_c6, o_isi, ty_int_non, ty_int_bl, ty_int_int, ty_int_str, ty_int_tup, ty_int_lst, ty_int_dic, ty_int_set, ty_bool_non, ty_bool_bl, ty_bool_int, ty_bool_str, ty_bool_tup, ty_bool_lst, ty_bool_dic, ty_bool_set, ty_str_non, ty_str_bl, ty_str_int, ty_str_str, ty_str_tup, ty_str_lst, ty_str_dic, ty_str_set, ty_tuple_non, ty_tuple_bl, ty_tuple_int, ty_tuple_str, ty_tuple_tup, ty_tuple_lst, ty_tuple_dic, ty_tuple_set, ty_list_non, ty_list_bl, ty_list_int, ty_list_str, ty_list_tup, ty_list_lst, ty_list_dic, ty_list_set, ty_dict_non, ty_dict_bl, ty_dict_int, ty_dict_str, ty_dict_tup, ty_dict_lst, ty_dict_dic, ty_dict_set, ty_set_non, ty_set_bl, ty_set_int, ty_set_str, ty_set_tup, ty_set_lst, ty_set_dic, ty_set_set, hx, Int.zero_add, bin_step (show i ≤ n by omega)]
    refine ⟨?_, divOk_of (by omega) (by omega), _, rfl, rfl⟩
    have := mulOk_nat (a := bin n i) (b := n - i) (bin_le n i) (by omega) (by have : n - i ≤ 2 ^ 10 := by omega
                                                                              exact Nat.le_trans this (Nat.pow_le_pow_right (by decide) (by decide)))
    rw [Int.ofNat_sub (by omega)] at this
    exact this
  · obtain ⟨x, rfl, hx⟩ := h
    simp only [wp_ret, wp_stuck, wp_bnd, kb_ap, wp_lift, wo_some, wo_none, wo_ite, wo_map, wp_ite, ks_nx, ks_rt, ks_bk, ks_ct, wp_seq, wp_pk, kpk_v, kpk_ow, wp_rd, krd_v, krd_ow, wp_mv, kmv_v, kmv_ow, wp_cst, wp_use2, k2_ap, wp_op2, wp_use1, k1_ap, wp_op1, wp_useN, kN_ap, wp_opN, rsv_d, rsv_pk, ksv_v, ksv_ow, rsvs_nil, rsvs_cons, kcons_ap, wp_osN, wp_osC, wp_lsN, wp_lsC, wp_fsN, wp_fsC, wp_opd, wp_frz, wp_tupM, wp_lstM, wp_tst, ktst_bl, wp_notB, wp_andB, wp_orB, wp_andV, wp_orV, wp_notV, wp_ifE, wp_drop, wp_retM, wp_retN, fr_v, fr_un, fr_ow, pl_v, pl_un, fr_pl, frO_ap, plO_ap, slot_f, slot_t, wp_put, wp_setM, wp_parM, puts_nil, puts_cons, kt_ap, wt_N, wts_nil, wts_cons, wt_T, wp_setT, wp_tg, wp_appU, kap_ap, isL_ap, kapp_ap, wp_appE, wp_setP, kset_ap, wp_setIx, wp_setQ, wp_useF, kcall_ap, kpb_ap, kpe_ap, wp_callM, kargs_ap, argsOf_nil, argsOf_cons, argOf_d, argOf_pk, karg_v, karg_ow, pks_nil, pks_d, pks_pk, kpks_ow, kpks_v, nodupN_nil, nodupN_one, nodupN_cons, pb_nil, pb_d, pb_dU, pb_pk, kpbk_ap, kr_rt, kr_nx, kre_ap, wp_runB, back_nil, back_v, back_ow, wp_forM, wp_srcV, wp_srcA, kfor_nx, kfor_ct, kfor_bk, kfor_rt, wp_forGo_nil, wb_nil, npO_ap, wb_cons, wp_lcM, klc_ap, wp_lcB, kel_ap, kco_t, kco_f, kco_d, List.getElem?_cons_zero, List.getElem?_cons_succ, List.set_cons_zero, List.set_cons_succ, List.length_cons, List.length_nil, List.length_append, List.replicate_succ, List.replicate_zero, List.cons_append, List.nil_append, if_true, if_false, ite_true, ite_false, Bool.false_eq_true, true_and, and_true, decide_eq_true_eq, Bool.not_true, Bool.not_false, Bool.not_eq_true', decide_eq_false_iff_not, reduceIte, reduceCtorEq, Nat.zero_add, Nat.reduceAdd, Nat.reduceSub, List.contains_nil, List.contains_cons, Bool.and_true, Bool.or_false, Bool.and_self, beq_self_eq_true, Nat.reduceBEq, Nat.reduceEqDiff, Nat.succ_eq_add_one, rst, List.getD_cons_zero, List.getD_cons_succ, isF, lenF, listF, tupleF, o_int, o_inti, o_addl, o_addt, o_mulb, absF, minF, maxF, sumF, seqOf, eq_self, decide_true, decide_false, not_true_eq_false, not_false_eq_true, Bool.or_true, Bool.true_or, Bool.false_or, Bool.true_and, Bool.false_and, Bool.and_false, Option.map_some, Option.map_none, bne_f, bne_t, dec_not, fr_pl, nums_int, List.length_map, o_lt, o_le, o_gt, o_ge, o_add, o_sub, o_mul, o_div, o_mod, o_pow, o_rng1, o_rng2, at_0, at_1, at_2, at_3, at_4, at_5, at_nat, ix_0, ix_1, ix_2, ix_3, idx_l, idx_t, o_eq, o_eqb, small_nil, small_c1, small_c2, small_c3, small_c4, small_c5, small_c6, o_isi, ty_int_non, ty_int_bl, ty_int_int, ty_int_str, ty_int_tup, ty_int_lst, ty_int_dic, ty_int_set, ty_bool_non, ty_bool_bl, ty_bool_int, ty_bool_str, ty_bool_tup, ty_bool_lst, ty_bool_dic, ty_bool_set, ty_str_non, ty_str_bl, ty_str_int, ty_str_str, ty_str_tup, ty_str_lst, ty_str_dic, ty_str_set, ty_tuple_non, ty_tuple_bl, ty_tuple_int, ty_tuple_str, ty_tuple_tup, ty_tuple_lst, ty_tuple_dic, ty_tuple_set, ty_list_non, ty_list_bl, ty_list_int, ty_list_str, ty_list_tup, ty_list_lst, ty_list_dic, ty_list_set, ty_dict_non, ty_dict_bl, ty_dict_int, ty_dict_str, ty_dict_tup, ty_dict_lst, ty_dict_dic, ty_dict_set, ty_set_non, ty_set_bl, ty_set_int, ty_set_str, ty_set_tup, ty_set_lst, ty_set_dic, ty_set_set]
    rw [intsF_len, Int.toNat_natCast]
    exact q
theorem wp_choose0 {n k : Int} (h : k < 0 ∨ n < k) {Q : D × Bool → SS → Prop} {E : Ex → SS → Prop} (q : Q (.int 0, false) [.v (.int n), .v (.int k)]) : wp F_choose [.v (.int n), .v (.int k)] Q E := by
  unfold F_choose b_choose
  simp only [wp_ret, wp_stuck, wp_bnd, kb_ap, wp_lift, wo_some, wo_none, wo_ite, wo_map, wp_ite, ks_nx, ks_rt, ks_bk, ks_ct, wp_seq, wp_pk, kpk_v, kpk_ow, wp_rd, krd_v, krd_ow, wp_mv, kmv_v, kmv_ow, wp_cst, wp_use2, k2_ap, wp_op2, wp_use1, k1_ap, wp_op1, wp_useN, kN_ap, wp_opN, rsv_d, rsv_pk, ksv_v, ksv_ow, rsvs_nil, rsvs_cons, kcons_ap, wp_osN, wp_osC, wp_lsN, wp_lsC, wp_fsN, wp_fsC, wp_opd, wp_frz, wp_tupM, wp_lstM, wp_tst, ktst_bl, wp_notB, wp_andB, wp_orB, wp_andV, wp_orV, wp_notV, wp_ifE, wp_drop, wp_retM, wp_retN, fr_v, fr_un, fr_ow, pl_v, pl_un, fr_pl, frO_ap, plO_ap, slot_f, slot_t, wp_put, wp_setM, wp_parM, puts_nil, puts_cons, kt_ap, wt_N, wts_nil, wts_cons, wt_T, wp_setT, wp_tg, wp_appU, kap_ap, isL_ap, kapp_ap, wp_appE, wp_setP, kset_ap, wp_setIx, wp_setQ, wp_useF, kcall_ap, kpb_ap, kpe_ap, wp_callM, kargs_ap, argsOf_nil, argsOf_cons, argOf_d, argOf_pk, karg_v, karg_ow, pks_nil, pks_d, pks_pk, kpks_ow, kpks_v, nodupN_nil, nodupN_one, nodupN_cons, pb_nil, pb_d, pb_dU, pb_pk, kpbk_ap, kr_rt, kr_nx, kre_ap, wp_runB, back_nil, back_v, back_ow, wp_forM, wp_srcV, wp_srcA, kfor_nx, kfor_ct, kfor_bk, kfor_rt, wp_forGo_nil, wb_nil, npO_ap, wb_cons, wp_lcM, klc_ap, wp_lcB, kel_ap, kco_t, kco_f, kco_d, List.getElem?_cons_zero, List.getElem?_cons_succ, List.set_cons_zero, List.set_cons_succ, List.length_cons, List.length_nil, List.length_append, List.replicate_succ, List.replicate_zero, List.cons_append, List.nil_append, if_true, if_false, ite_true, ite_false, Bool.false_eq_true, true_and, and_true, decide_eq_true_eq, Bool.not_true, Bool.not_false, Bool.not_eq_true', decide_eq_false_iff_not, reduceIte, reduceCtorEq, Nat.zero_add, Nat.reduceAdd, Nat.reduceSub, List.contains_nil, List.contains_cons, Bool.and_true, Bool.or_false, Bool.and_self, beq_self_eq_true, Nat.reduceBEq, Nat.reduceEqDiff, Nat.succ_eq_add_one, rst, List.getD_cons_zero, List.getD_cons_succ, isF, lenF, listF, tupleF, o_int, o_inti, o_addl, o_addt, o_mulb, absF, minF, maxF, sumF, seqOf, eq_self, decide_true, decide_false, not_true_eq_false, not_false_eq_true, Bool.or_true, Bool.true_or, Bool.false_or, Bool.true_and, Bool.false_and, Bool.and_false, Option.map_some, Option.map_none, bne_f, bne_t, dec_not, fr_pl, nums_int, List.length_map, o_lt, o_le, o_gt, o_ge, o_add, o_sub, o_mul, o_div, o_mod, o_pow, o_rng1, o_rng2, at_0, at_1, at_2, at_3, at_4, at_5, at_nat, ix_0, ix_1, ix_2, ix_3, idx_l, idx_t, o_eq, o_eqb, small_nil, small_c1, small_c2, small_c3, small_c4, small_c5, small_c6, o_isi, ty_int_non, ty_int_bl, ty_int_int, ty_int_str, ty_int_tup, ty_int_lst, ty_int_dic, ty_int_set, ty_bool_non, ty_bool_bl, ty_bool_int, ty_bool_str, ty_bool_tup, ty_bool_lst, ty_bool_dic, ty_bool_set, ty_str_non, ty_str_bl, ty_str_int, ty_str_str, ty_str_tup, ty_str_lst, ty_str_dic, ty_str_set, ty_tuple_non, ty_tuple_bl, ty_tuple_int, ty_tuple_str, ty_tuple_tup, ty_tuple_lst, ty_tuple_dic, ty_tuple_set, ty_list_non, ty_list_bl, ty_list_int, ty_list_str, ty_list_tup, ty_list_lst, ty_list_dic, ty_list_set, ty_dict_non, ty_dict_bl, ty_dict_int, ty_dict_str, ty_dict_tup, ty_dict_lst, ty_dict_dic, ty_dict_set, ty_set_non, ty_set_bl, ty_set_int, ty_set_str, ty_set_tup, ty_set_lst, ty_set_dic, ty_set_set]
  by_cases h1 : k < 0
  · simp only [h1, if_true]; exact q
  · have h2 : n < k := by omega
    simp only [h1, h2, if_true, if_false]; exact q
theorem wp_power {b e : Nat} (hb : b ≤ 16) (he : e ≤ 100) {Q : D × Bool → SS → Prop} {E : Ex → SS → Prop} (q : Q (.int ((b ^ e : Nat) : Int), false) [.v (.int (b : Int)), .v (.int (e : Int))]) : wp F_power [.v (.int (b : Int)), .v (.int (e : Int))] Q E := by
  unfold F_power b_power
  simp only [wp_ret, wp_stuck, wp_bnd, kb_ap, wp_lift, wo_some, wo_none, wo_ite, wo_map, wp_ite, ks_nx, ks_rt, ks_bk, ks_ct, wp_seq, wp_pk, kpk_v, kpk_ow, wp_rd, krd_v, krd_ow, wp_mv, kmv_v, kmv_ow, wp_cst, wp_use2, k2_ap, wp_op2, wp_use1, k1_ap, wp_op1, wp_useN, kN_ap, wp_opN, rsv_d, rsv_pk, ksv_v, ksv_ow, rsvs_nil, rsvs_cons, kcons_ap, wp_osN, wp_osC, wp_lsN, wp_lsC, wp_fsN, wp_fsC, wp_opd, wp_frz, wp_tupM, wp_lstM, wp_tst, ktst_bl, wp_notB, wp_andB, wp_orB, wp_andV, wp_orV, wp_notV, wp_ifE, wp_drop, wp_retM, wp_retN, fr_v, fr_un, fr_ow, pl_v, pl_un, fr_pl, frO_ap, plO_ap, slot_f, slot_t, wp_put, wp_setM, wp_parM, puts_nil, puts_cons, kt_ap, wt_N, wts_nil, wts_cons, wt_T, wp_setT, wp_tg, wp_appU, kap_ap, isL_ap, kapp_ap, wp_appE, wp_setP, kset_ap, wp_setIx, wp_setQ, wp_useF, kcall_ap, kpb_ap, kpe_ap, wp_callM, kargs_ap, argsOf_nil, argsOf_cons, argOf_d, argOf_pk, karg_v, karg_ow, pks_nil, pks_d, pks_pk, kpks_ow, kpks_v, nodupN_nil, nodupN_one, nodupN_cons, pb_nil, pb_d, pb_dU, pb_pk, kpbk_ap, kr_rt, kr_nx, kre_ap, wp_runB, back_nil, back_v, back_ow, wp_forM, wp_srcV, wp_srcA, kfor_nx, kfor_ct, kfor_bk, kfor_rt, wp_forGo_nil, wb_nil, npO_ap, wb_cons, wp_lcM, klc_ap, wp_lcB, kel_ap, kco_t, kco_f, kco_d, List.getElem?_cons_zero, List.getElem?_cons_succ, List.set_cons_zero, List.set_cons_succ, List.length_cons, List.length_nil, List.length_append, List.replicate_succ, List.replicate_zero, List.cons_append, List.nil_append, if_true, if_false, ite_true, ite_false, Bool.false_eq_true, true_and, and_true, decide_eq_true_eq, Bool.not_true, Bool.not_false, Bool.not_eq_true', decide_eq_false_iff_not, reduceIte, reduceCtorEq, Nat.zero_add, Nat.reduceAdd, Nat.reduceSub, List.contains_nil, List.contains_cons, Bool.and_true, Bool.or_false, Bool.and_self, beq_self_eq_true, Nat.reduceBEq, Nat.reduceEqDiff, Nat.succ_eq_add_one, rst, List.getD_cons_zero, List.getD_cons_succ, isF, lenF, listF, tupleF, o_int, o_inti, o_addl, o_addt, o_mulb, absF, minF, maxF, sumF, seqOf, eq_self, decide_true, decide_false, not_true_eq_false, not_false_eq_true, Bool.or_true, Bool.true_or, Bool.false_or, Bool.true_and, Bool.false_and, Bool.and_false, Option.map_some, Option.map_none, bne_f, bne_t, dec_not, fr_pl, nums_int, List.length_map, o_lt, o_le, o_gt, o_ge, o_add, o_sub, o_mul, o_div, o_mod, o_pow, o_rng1, o_rng2, at_0, at_1, at_2, at_3, at_4, at_5, at_nat, ix_0, ix_1, ix_2, ix_3, idx_l, idx_t, o_eq, o_eqb, small_nil, small_c1, small_c2, small_c3, small_c4, small_c5, small_c6, o_isi, ty_int_non, ty_int_bl, ty_int_int, ty_int_str, ty_int_tup, ty_int_lst, ty_int_dic, ty_int_set, ty_bool_non, ty_bool_bl, ty_bool_int, ty_bool_str, ty_bool_tup, ty_bool_lst, ty_bool_dic, ty_bool_set, ty_str_non, ty_str_bl, ty_str_int, ty_str_str, ty_str_tup, ty_str_lst, ty_str_dic, ty_str_set, ty_tuple_non, ty_tuple_bl, ty_tuple_int, ty_tuple_str, ty_tuple_tup, ty_tuple_lst, ty_tuple_dic, ty_tuple_set, ty_list_non, ty_list_bl, ty_list_int, ty_list_str, ty_list_tup, ty_list_lst, ty_list_dic, ty_list_set, ty_dict_non, ty_dict_bl, ty_dict_int, ty_dict_str, ty_dict_tup, ty_dict_lst, ty_dict_dic, ty_dict_set, ty_set_non, ty_set_bl, ty_set_int, ty_set_str, ty_set_tup, ty_set_lst, ty_set_dic, ty_set_set]
  refine ⟨inB_of (by omega) (by omega), ?_⟩
  refine wp_for (fun i st => ∃ x, st = [.v (.int (b : Int)), .v (.int (e : Int)), .v (.int ((b ^ i : Nat) : Int)), x] ∧ pl x = true) ⟨_, rfl, rfl⟩ (fun i d st e h => ?_) fun st h => ?_
  · obtain ⟨x, rfl, hx⟩ := h
    obtain ⟨hi, rfl⟩ := intsF_get e
    simp only [wp_ret, wp_stuck, wp_bnd, kb_ap, wp_lift, wo_some, wo_none, wo_ite, wo_map, wp_ite, ks_nx, ks_rt, ks_bk, ks_ct, wp_seq, wp_pk, kpk_v, kpk_ow, wp_rd, krd_v, krd_ow, wp_mv, kmv_v, kmv_ow, wp_cst, wp_use2, k2_ap, wp_op2, wp_use1, k1_ap, wp_op1, wp_useN, kN_ap, wp_opN, rsv_d, rsv_pk, ksv_v, ksv_ow, rsvs_nil, rsvs_cons, kcons_ap, wp_osN, wp_osC, wp_lsN, wp_lsC, wp_fsN, wp_fsC, wp_opd, wp_frz, wp_tupM, wp_lstM, wp_tst, ktst_bl, wp_notB, wp_andB, wp_orB, wp_andV, wp_orV, wp_notV, wp_ifE, wp_drop, wp_retM, wp_retN, fr_v, fr_un, fr_ow, pl_v, pl_un, fr_pl, frO_ap, plO_ap, slot_f, slot_t, wp_put, wp_setM, wp_parM, puts_nil, puts_cons, kt_ap, wt_N, wts_nil, wts_cons, wt_T, wp_setT, wp_tg, wp_appU, kap_ap, isL_ap, kapp_ap, wp_appE, wp_setP, kset_ap, wp_setIx, wp_setQ, wp_useF, kcall_ap, kpb_ap, kpe_ap, wp_callM, kargs_ap, argsOf_nil, argsOf_cons, argOf_d, argOf_pk, karg_v, karg_ow, pks_nil, pks_d, pks_pk, kpks_ow, kpks_v, nodupN_nil, nodupN_one, nodupN_cons, pb_nil, pb_d, pb_dU, pb_pk, kpbk_ap, kr_rt, kr_nx, kre_ap, wp_runB, back_nil, back_v, back_ow, wp_forM, wp_srcV, wp_srcA, kfor_nx, kfor_ct, kfor_bk, kfor_rt, wp_forGo_nil, wb_nil, npO_ap, wb_cons, wp_lcM, klc_ap, wp_lcB, kel_ap, kco_t, kco_f, kco_d, List.getElem?_cons_zero, List.getElem?_cons_succ, List.set_cons_zero, List.set_cons_succ, List.length_cons, List.length_nil, List.length_append, List.replicate_succ, List.replicate_zero, List.cons_append, List.nil_append, if_true, if_false, ite_true, ite_false, Bool.false_eq_true, true_and, and_true, decide_eq_true_eq, Bool.not_true, Bool.not_false, Bool.not_eq_true', decide_eq_false_iff_not, reduceIte, reduceCtorEq, Nat.zero_add, Nat.reduceAdd, Nat.reduceSub, List.contains_nil, List.contains_cons, Bool.and_true, Bool.or_false, Bool.and_self, beq_self_eq_true, Nat.reduceBEq, Nat.reduceEqDiff, Nat.succ_eq_add_one, rst, List.getD_cons_zero, List.getD_cons_succ, isF, lenF, listF, tupleF, o_int, o_inti, o_addl, o_addt, o_mulb, absF, minF, maxF, sumF, seqOf, eq_self, decide_true, decide_false, not_true_eq_false, not_false_eq_true, Bool.or_true, Bool.true_or, Bool.false_or, Bool.true_and, Bool.false_and, Bool.and_false, Option.map_some, Option.map_none, bne_f, bne_t, dec_not, fr_pl, nums_int, List.length_map, o_lt, o_le, o_gt, o_ge, o_add, o_sub, o_mul, o_div, o_mod, o_pow, o_rng1, o_rng2, at_0, at_1, at_2, at_3, at_4, at_5, at_nat, ix_0, ix_1, ix_2, ix_3, idx_l, idx_t, o_eq, o_eqb, small_nil, small_c1, small_c2, small_c3, small_c4, small_c5, small_c6, o_isi, ty_int_non, ty_int_bl, ty_int_int, ty_int_str, ty_int_tup, ty_int_lst, ty_int_dic, ty_int_set, ty_bool_non, ty_bool_bl, ty_bool_int, ty_bool_str, ty_bool_tup, ty_bool_lst, ty_bool_dic, ty_bool_set, ty_str_non, ty_str_bl, ty_str_int, ty_str_str, ty_str_tup, ty_str_lst, ty_str_dic, ty_str_set, ty_tuple_non, ty_tuple_bl, ty_tuple_int, ty_tuple_str, ty_tuple_tup, ty_tuple_lst, ty_tuple_dic, ty_tuple_set, ty_list_non, ty_list_bl, ty_list_int, ty_list_str, ty_list_tup, ty_list_lst, ty_list_dic, ty_list_set, ty_dict_non, ty_dict_bl, ty_dict_int, ty_dict_str, ty_dict_tup, ty_dict_lst, ty_dict_dic, ty_dict_set, ty_set_non, ty_set_bl, ty_set_int, ty_set_str, ty_set_tup, ty_set_lst, ty_set_dic, ty_set_set, hx]
    refine ⟨?_, _, by rw [Nat.pow_succ, Int.natCast_mul], rfl⟩
    have h1 : b ^ i ≤ 2 ^ (4 * i) := by
      rw [Nat.pow_mul]
      exact Nat.pow_le_pow_left (by omega) i
    exact mulOk_nat h1 (by omega) (by have : b ≤ 2 ^ 10 := by omega
                                      exact Nat.le_trans this (Nat.pow_le_pow_right (by decide) (by decide)))
  · obtain ⟨x, rfl, hx⟩ := h
    simp only [wp_ret, wp_stuck, wp_bnd, kb_ap, wp_lift, wo_some, wo_none, wo_ite, wo_map, wp_ite, ks_nx, ks_rt, ks_bk, ks_ct, wp_seq, wp_pk, kpk_v, kpk_ow, wp_rd, krd_v, krd_ow, wp_mv, kmv_v, kmv_ow, wp_cst, wp_use2, k2_ap, wp_op2, wp_use1, k1_ap, wp_op1, wp_useN, kN_ap, wp_opN, rsv_d, rsv_pk, ksv_v, ksv_ow, rsvs_nil, rsvs_cons, kcons_ap, wp_osN, wp_osC, wp_lsN, wp_lsC, wp_fsN, wp_fsC, wp_opd, wp_frz, wp_tupM, wp_lstM, wp_tst, ktst_bl, wp_notB, wp_andB, wp_orB, wp_andV, wp_orV, wp_notV, wp_ifE, wp_drop, wp_retM, wp_retN, fr_v, fr_un, fr_ow, pl_v, pl_un, fr_pl, frO_ap, plO_ap, slot_f, slot_t, wp_put, wp_setM, wp_parM, puts_nil, puts_cons, kt_ap, wt_N, wts_nil, wts_cons, wt_T, wp_setT, wp_tg, wp_appU, kap_ap, isL_ap, kapp_ap, wp_appE, wp_setP, kset_ap, wp_setIx, wp_setQ, wp_useF, kcall_ap, kpb_ap, kpe_ap, wp_callM, kargs_ap, argsOf_nil, argsOf_cons, argOf_d, argOf_pk, karg_v, karg_ow, pks_nil, pks_d, pks_pk, kpks_ow, kpks_v, nodupN_nil, nodupN_one, nodupN_cons, pb_nil, pb_d, pb_dU, pb_pk, kpbk_ap, kr_rt, kr_nx, kre_ap, wp_runB, back_nil, back_v, back_ow, wp_forM, wp_srcV, wp_srcA, kfor_nx, kfor_ct, kfor_bk, kfor_rt, wp_forGo_nil, wb_nil, npO_ap, wb_cons, wp_lcM, klc_ap, wp_lcB, kel_ap, kco_t, kco_f, kco_d, List.getElem?_cons_zero, List.getElem?_cons_succ, List.set_cons_zero, List.set_cons_succ, List.length_cons, List.length_nil, List.length_append, List.replicate_succ, List.replicate_zero, List.cons_append, List.nil_append, if_true, if_false, ite_true, ite_false, Bool.false_eq_true, true_and, and_true, decide_eq_true_eq, Bool.not_true, Bool.not_false, Bool.not_eq_true', decide_eq_false_iff_not, reduceIte, reduceCtorEq, Nat.zero_add, Nat.reduceAdd, Nat.reduceSub, List.contains_nil, List.contains_cons, Bool.and_true, Bool.or_false, Bool.and_self, beq_self_eq_true, Nat.reduceBEq, Nat.reduceEqDiff, Nat.succ_eq_add_one, rst, List.getD_cons_zero, List.getD_cons_succ, isF, lenF, listF, tupleF, o_int, o_inti, o_addl, o_addt, o_mulb, absF, minF, maxF, sumF, seqOf, eq_self, decide_true, decide_false, not_true_eq_false, not_false_eq_true, Bool.or_true, Bool.true_or, Bool.false_or, Bool.true_and, Bool.false_and, Bool.and_false, Option.map_some, Option.map_none, bne_f, bne_t, dec_not, fr_pl, nums_int, List.length_map, o_lt, o_le, o_gt, o_ge, o_add, o_sub, o_mul, o_div, o_mod, o_pow, o_rng1, o_rng2, at_0, at_1, at_2, at_3, at_4, at_5, at_nat, ix_0, ix_1, ix_2, ix_3, idx_l, idx_t, o_eq, o_eqb, small_nil, small_c1, small_c2, small_c3, small_c4, small_c5, small_c6, o_isi, ty_int_non, ty_int_bl, ty_int_int, ty_int_str, ty_int_tup, ty_int_lst, ty_int_dic, ty_int_set, ty_bool_non, ty_bool_bl, ty_bool_int, ty_bool_str, ty_bool_tup, ty_bool_lst, ty_bool_dic, ty_bool_set, ty_str_non, ty_str_bl, ty_str_int, ty_str_str, ty_str_tup, ty_str_lst, ty_str_dic, ty_str_set, ty_tuple_non, ty_tuple_bl, ty_tuple_int, ty_tuple_str, ty_tuple_tup, ty_tuple_lst, ty_tuple_dic, ty_tuple_set, ty_list_non, ty_list_bl, ty_list_int, ty_list_str, ty_list_tup, ty_list_lst, ty_list_dic, ty_list_set, ty_dict_non, ty_dict_bl, ty_dict_int, ty_dict_str, ty_dict_tup, ty_dict_lst, ty_dict_dic, ty_dict_set, ty_set_non, ty_set_bl, ty_set_int, ty_set_str, ty_set_tup, ty_set_lst, ty_set_dic, ty_set_set]
    rw [intsF_len, Int.toNat_natCast]
    exact q
/-! mixtures -/
def natD (n : Nat) : D := .int (n : Int)
def mixA : Nat → Nat → List Nat → Nat
  | _, t, [] => t
  | w, t, s :: ss => mixA (w + s) (t * bin (w + s) s) ss
def sumsA : Nat → List Nat → List Nat
  | _, [] => []
  | w, s :: ss => (w + s) :: sumsA (w + s) ss
structure Sz (ns : List Nat) (w t : Nat) (rem : List Nat) : Prop where
  len : rem.length ≤ 5
  all : ∀ s, s ∈ rem → s ≤ 8
  wb : w + 8 * rem.length ≤ 40
  tb : t ≤ 2 ^ (40 * (5 - rem.length))
theorem Sz.step {ns : List Nat} {w t s : Nat} {rem : List Nat} (h : Sz ns w t (s :: rem)) : s ≤ 8 ∧ w + s ≤ 40 ∧ t ≤ 2 ^ 160 ∧ Sz ns (w + s) (t * bin (w + s) s) rem := by
  have h1 := h.len
  have h2 := h.wb
  have h3 := h.all s List.mem_cons_self
  have h4 := h.tb
  simp only [List.length_cons] at h1 h2 h4
  refine ⟨h3, by omega, Nat.le_trans h4 (Nat.pow_le_pow_right (by decide) (by omega)), by omega, fun x m => h.all x (List.mem_cons_of_mem _ m), by omega, ?_⟩
  have e : 2 ^ (40 * (5 - rem.length)) = 2 ^ (40 * (5 - (rem.length + 1))) * 2 ^ 40 := by
    rw [← Nat.pow_add]
    congr 1
    omega
  rw [e]
  exact Nat.mul_le_mul h4 (Nat.le_trans (bin_le _ _) (Nat.pow_le_pow_right (by decide) (by omega)))
theorem big1500 {a k : Nat} (h : a ≤ 2 ^ k) (hk : k ≤ 1500) : a ≤ 2 ^ 1500 := Nat.le_trans h (Nat.pow_le_pow_right (by decide) hk)
theorem sm1500 {a : Nat} (h : a ≤ 1000000) : a ≤ 2 ^ 1500 := Nat.le_trans (show a ≤ 2 ^ 20 by omega) (Nat.pow_le_pow_right (by decide) (by decide))
theorem wp_mixtures {ns : List Nat} (h5 : ns.length ≤ 5) (h8 : ∀ s, s ∈ ns → s ≤ 8) {Q : D × Bool → SS → Prop} {E : Ex → SS → Prop} (q : Q (natD (mixA 0 1 ns), false) [.v (.lst (ns.map natD))]) : wp F_mixtures [.v (.lst (ns.map natD))] Q E := by
  unfold F_mixtures b_mixtures
  simp only [wp_ret, wp_stuck, wp_bnd, kb_ap, wp_lift, wo_some, wo_none, wo_ite, wo_map, wp_ite, ks_nx, ks_rt, ks_bk, ks_ct, wp_seq, wp_pk, kpk_v, kpk_ow, wp_rd, krd_v, krd_ow, wp_mv, kmv_v, kmv_ow, wp_cst, wp_use2, k2_ap, wp_op2, wp_use1, k1_ap, wp_op1, wp_useN, kN_ap, wp_opN, rsv_d, rsv_pk, ksv_v, ksv_ow, rsvs_nil, rsvs_cons, kcons_ap, wp_osN, wp_osC, wp_lsN, wp_lsC, wp_fsN, wp_fsC, wp_opd, wp_frz, wp_tupM, wp_lstM, wp_tst, ktst_bl, wp_notB, wp_andB, wp_orB, wp_andV, wp_orV, wp_notV, wp_ifE, wp_drop, wp_retM, wp_retN, fr_v, fr_un, fr_ow, pl_v, pl_un, fr_pl, frO_ap, plO_ap, slot_f, slot_t, wp_put, wp_setM, wp_parM, puts_nil, puts_cons, kt_ap, wt_N, wts_nil, wts_cons, wt_T, wp_setT, wp_tg, wp_appU, kap_ap, isL_ap, kapp_ap, wp_appE, wp_setP, kset_ap, wp_setIx, wp_setQ, wp_useF, kcall_ap, kpb_ap, kpe_ap, wp_callM, kargs_ap, argsOf_nil, argsOf_cons, argOf_d, argOf_pk, karg_v, karg_ow, pks_nil, pks_d, pks_pk, kpks_ow, kpks_v, nodupN_nil, nodupN_one, nodupN_cons, pb_nil, pb_d, pb_dU, pb_pk, kpbk_ap, kr_rt, kr_nx, kre_ap, wp_runB, back_nil, back_v, back_ow, wp_forM, wp_srcV, wp_srcA, kfor_nx, kfor_ct, kfor_bk, kfor_rt, wp_forGo_nil, wb_nil, npO_ap, wb_cons, wp_lcM, klc_ap, wp_lcB, kel_ap, kco_t, kco_f, kco_d, List.getElem?_cons_zero, List.getElem?_cons_succ, List.set_cons_zero, List.set_cons_succ, List.length_cons, List.length_nil, List.length_append, List.replicate_succ, List.replicate_zero, List.cons_append, List.nil_append, if_true, if_false, ite_true, ite_false, Bool.false_eq_true, true_and, and_true, decide_eq_true_eq, Bool.not_true, Bool.not_false, Bool.not_eq_true', decide_eq_false_iff_not, reduceIte, reduceCtorEq, Nat.zero_add, Nat.reduceAdd, Nat.reduceSub, List.contains_nil, List.contains_cons, Bool.and_true, Bool.or_false, Bool.and_self, beq_self_eq_true, Nat.reduceBEq, Nat.reduceEqDiff, Nat.succ_eq_add_one, rst, List.getD_cons_zero, List.getD_cons_succ, isF, lenF, listF, tupleF, o_int, o_inti, o_addl, o_addt, o_mulb, absF, minF, maxF, sumF, seqOf, eq_self, decide_true, decide_false, not_true_eq_false, not_false_eq_true, Bool.or_true, Bool.true_or, Bool.false_or, Bool.true_and, Bool.false_and, Bool.and_false, Option.map_some, Option.map_none, bne_f, bne_t, dec_not, fr_pl, nums_int, List.length_map, o_lt, o_le, o_gt, o_ge, o_add, o_sub, o_mul, o_div, o_mod, o_pow, o_rng1, o_rng2, at_0, at_1, at_2, at_3, at_4, at_5, at_nat, ix_0, ix_1, ix_2, ix_3, idx_l, idx_t, o_eq, o_eqb, small_nil, small_c1, small_c2, small_c3, small_c4, small_c5, small_c6, o_isi, ty_int_non, ty_int_bl, ty_int_int, ty_int_str, ty_int_tup, ty_int_lst, ty_int_dic, ty_int_set, ty_bool_non, ty_bool_bl, ty_bool_int, ty_bool_str, ty_bool_tup, ty_bool_lst, ty_bool_dic, ty_bool_set, ty_str_non, ty_str_bl, ty_str_int, ty_str_str, ty_str_tup, ty_str_lst, ty_str_dic, ty_str_set, ty_tuple_non, ty_tuple_bl, ty_tuple_int, ty_tuple_str, ty_tuple_tup, ty_tuple_lst, ty_tuple_dic, ty_tuple_set, ty_list_non, ty_list_bl, ty_list_int, ty_list_str, ty_list_tup, ty_list_lst, ty_list_dic, ty_list_set, ty_dict_non, ty_dict_bl, ty_dict_int, ty_dict_str, ty_dict_tup, ty_dict_lst, ty_dict_dic, ty_dict_set, ty_set_non, ty_set_bl, ty_set_int, ty_set_str, ty_set_tup, ty_set_lst, ty_set_dic, ty_set_set]
  refine wp_forL (fun rem st => ∃ (w t : Nat) (x : SV), st = [.v (.lst (ns.map natD)), .v (.int (t : Int)), .v (.int (w : Int)), x] ∧ pl x = true ∧ mixA w t rem = mixA 0 1 ns ∧ Sz ns w t rem) (fun s rem st h => ?_) (fun st h => ?_) ns _ ⟨0, 1, _, rfl, rfl, rfl, ⟨h5, h8, by omega, Nat.one_le_two_pow⟩⟩
  · obtain ⟨w, t, x, rfl, hx, hm, hs⟩ := h
    obtain ⟨a1, a2, a3, a4⟩ := hs.step
    simp only [wp_ret, wp_stuck, wp_bnd, kb_ap, wp_lift, wo_some, wo_none, wo_ite, wo_map, wp_ite, ks_nx, ks_rt, ks_bk, ks_ct, wp_seq, wp_pk, kpk_v, kpk_ow, wp_rd, krd_v, krd_ow, wp_mv, kmv_v, kmv_ow, wp_cst, wp_use2, k2_ap, wp_op2, wp_use1, k1_ap, wp_op1, wp_useN, kN_ap, wp_opN, rsv_d, rsv_pk, ksv_v, ksv_ow, rsvs_nil, rsvs_cons, kcons_ap, wp_osN, wp_osC, wp_lsN, wp_lsC, wp_fsN, wp_fsC, wp_opd, wp_frz, wp_tupM, wp_lstM, wp_tst, ktst_bl, wp_notB, wp_andB, wp_orB, wp_andV, wp_orV, wp_notV, wp_ifE, wp_drop, wp_retM, wp_retN, fr_v, fr_un, fr_ow, pl_v, pl_un, fr_pl, frO_ap, plO_ap, slot_f, slot_t, wp_put, wp_setM, wp_parM, puts_nil, puts_cons, kt_ap, wt_N, wts_nil, wts_cons, wt_T, wp_setT, wp_tg, wp_appU, kap_ap, isL_ap, kapp_ap, wp_appE, wp_setP, kset_ap, wp_setIx, wp_setQ, wp_useF, kcall_ap, kpb_ap, kpe_ap, wp_callM, kargs_ap, argsOf_nil, argsOf_cons, argOf_d, argOf_pk, karg_v, karg_ow, pks_nil, pks_d, pks_pk, kpks_ow, kpks_v, nodupN_nil, nodupN_one, nodupN_cons, pb_nil, pb_d, pb_dU, pb_pk, kpbk_ap, kr_rt, kr_nx, kre_ap, wp_runB, back_nil, back_v, back_ow, wp_forM, wp_srcV, wp_srcA, kfor_nx, kfor_ct, kfor_bk, kfor_rt, wp_forGo_nil, wb_nil, npO_ap, wb_cons, wp_lcM, klc_ap, wp_lcB, kel_ap, kco_t, kco_f, kco_d, List.getElem?_cons_zero, List.getElem?_cons_succ, List.set_cons_zero, List.set_cons_succ, List.length_cons, List.length_nil, List.length_append, List.replicate_succ, List.replicate_zero, List.cons_append, List.nil_append, if_true, if_false, ite_true, ite_false, Bool.false_eq_true, true_and, and_true, decide_eq_true_eq, Bool.not_true, Bool.not_false, Bool.not_eq_true', decide_eq_false_iff_not, reduceIte, reduceCtorEq, Nat.zero_add, Nat.reduceAdd, Nat.reduceSub, List.contains_nil, List.contains_cons, Bool.and_true, Bool.or_false, Bool.and_self, beq_self_eq_true, Nat.reduceBEq, Nat.reduceEqDiff, Nat.succ_eq_add_one, rst, List.getD_cons_zero, List.getD_cons_succ, isF, lenF, listF, tupleF, o_int, o_inti, o_addl, o_addt, o_mulb, absF, minF, maxF, sumF, seqOf, eq_self, decide_true, decide_false, not_true_eq_false, not_false_eq_true, Bool.or_true, Bool.true_or, Bool.false_or, Bool.true_and, Bool.false_and, Bool.and_false, Option.map_some, Option.map_none, bne_f, bne_t, dec_not, fr_pl, nums_int, List.length_map, o_lt, o_le, o_gt, o_ge, o_add, o_sub, o_mul, o_div, o_mod, o_pow, o_rng1, o_rng2, at_0, at_1, at_2, at_3, at_4, at_5, at_nat, ix_0, ix_1, ix_2, ix_3, idx_l, idx_t, o_eq, o_eqb, small_nil, small_c1, small_c2, small_c3, small_c4, small_c5, small_c6, o_isi, ty_int_non, ty_int_bl, ty_int_int, ty_int_str, ty_int_tup, ty_int_lst, ty_int_dic, ty_int_set, ty_bool_non, ty_bool_bl, ty_bool_int, ty_bool_str, ty_bool_tup, ty_bool_lst, ty_bool_dic, ty_bool_set, ty_str_non, ty_str_bl, ty_str_int, ty_str_str, ty_str_tup, ty_str_lst, ty_str_dic, ty_str_set, ty_tuple_non, ty_tuple_bl, ty_tuple_int, ty_tuple_str, ty_tuple_tup, ty_tuple_lst, ty_tuple_dic, ty_tuple_set, ty_list_non, ty_list_bl, ty_list_int, ty_list_str, ty_list_tup, ty_list_lst, ty_list_dic, ty_list_set, ty_dict_non, ty_dict_bl, ty_dict_int, ty_dict_str, ty_dict_tup, ty_dict_lst, ty_dict_dic, ty_dict_set, ty_set_non, ty_set_bl, ty_set_int, ty_set_str, ty_set_tup, ty_set_lst, ty_set_dic, ty_set_set, hx, natD]
    rw [show (w : Int) + (s : Int) = ((w + s : Nat) : Int) from rfl]
    refine wp_choose (by omega) (by omega) ?_
    simp only [wp_ret, wp_stuck, wp_bnd, kb_ap, wp_lift, wo_some, wo_none, wo_ite, wo_map, wp_ite, ks_nx, ks_rt, ks_bk, ks_ct, wp_seq, wp_pk, kpk_v, kpk_ow, wp_rd, krd_v, krd_ow, wp_mv, kmv_v, kmv_ow, wp_cst, wp_use2, k2_ap, wp_op2, wp_use1, k1_ap, wp_op1, wp_useN, kN_ap, wp_opN, rsv_d, rsv_pk, ksv_v, ksv_ow, rsvs_nil, rsvs_cons, kcons_ap, wp_osN, wp_osC, wp_lsN, wp_lsC, wp_fsN, wp_fsC, wp_opd, wp_frz, wp_tupM, wp_lstM, wp_tst, ktst_bl, wp_notB, wp_andB, wp_orB, wp_andV, wp_orV, wp_notV, wp_ifE, wp_drop, wp_retM, wp_retN, fr_v, fr_un, fr_ow, pl_v, pl_un, fr_pl, frO_ap, plO_ap, slot_f, slot_t, wp_put, wp_setM, wp_parM, puts_nil, puts_cons, kt_ap, wt_N, wts_nil, wts_cons, wt_T, wp_setT, wp_tg, wp_appU, kap_ap, isL_ap, kapp_ap, wp_appE, wp_setP, kset_ap, wp_setIx, wp_setQ, wp_useF, kcall_ap, kpb_ap, kpe_ap, wp_callM, kargs_ap, argsOf_nil, argsOf_cons, argOf_d, argOf_pk, karg_v, karg_ow, pks_nil, pks_d, pks_pk, kpks_ow, kpks_v, nodupN_nil, nodupN_one, nodupN_cons, pb_nil, pb_d, pb_dU, pb_pk, kpbk_ap, kr_rt, kr_nx, kre_ap, wp_runB, back_nil, back_v, back_ow, wp_forM, wp_srcV, wp_srcA, kfor_nx, kfor_ct, kfor_bk, kfor_rt, wp_forGo_nil, wb_nil, npO_ap, wb_cons, wp_lcM, klc_ap, wp_lcB, kel_ap, kco_t, kco_f, kco_d, List.getElem?_cons_zero, List.getElem?_cons_succ, List.set_cons_zero, List.set_cons_succ, List.length_cons, List.length_nil, List.length_append, List.replicate_succ, List.replicate_zero, List.cons_append, List.nil_append, if_true, if_false, ite_true, ite_false, Bool.false_eq_true, true_and, and_true, decide_eq_true_eq, Bool.not_true, Bool.not_false, Bool.not_eq_true', decide_eq_false_iff_not, reduceIte, reduceCtorEq, Nat.zero_add, Nat.reduceAdd, Nat.reduceSub, List.contains_nil, List.contains_cons, Bool.and_true, Bool.or_false, Bool.and_self, beq_self_eq_true, Nat.reduceBEq, Nat.reduceEqDiff, Nat.succ_eq_add_one, rst, List.getD_cons_zero, List.getD_cons_succ, isF, lenF, listF, tupleF, o_int, o_inti, o_addl, o_addt, o_mulb, absF, minF, maxF, sumF, seqOf, eq_self, decide_true, decide_false, not_true_eq_false, not_false_eq_true, Bool.or_true, Bool.true_or, Bool.false_or, Bool.true_and, Bool.false_and, Bool.and_false, Option.map_some, Option.map_none, bne_f, bne_t, dec_not, fr_pl, nums_int, List.length_map, o_lt, o_le, o_gt, o_ge, o_add, o_sub, o_mul, o_div, o_mod, o_pow, o_rng1, o_rng2, at_0, at_1, at_2, at_3, at_4, at_5, at_nat, ix_0, ix_1, ix_2, ix_3, idx_l, idx_t, o_eq, o_eqb, small_nil, small_c1, small_c2, small_c3, small_c4, small_c5, small_c6, o_isi, ty_int_non, ty_int_bl, ty_int_int, ty_int_str, ty_int_tup, ty_int_lst, ty_int_dic, ty_int_set, ty_bool_non, ty_bool_bl, ty_bool_int, ty_bool_str, ty_bool_tup, ty_bool_lst, ty_bool_dic, ty_bool_set, ty_str_non, ty_str_bl, ty_str_int, ty_str_str, ty_str_tup, ty_str_lst, ty_str_dic, ty_str_set, ty_tuple_non, ty_tuple_bl, ty_tuple_int, ty_tuple_str, ty_tuple_tup, ty_tuple_lst, ty_tuple_dic, ty_tuple_set, ty_list_non, ty_list_bl, ty_list_int, ty_list_str, ty_list_tup, ty_list_lst, ty_list_dic, ty_list_set, ty_dict_non, ty_dict_bl, ty_dict_int, ty_dict_str, ty_dict_tup, ty_dict_lst, ty_dict_dic, ty_dict_set, ty_set_non, ty_set_bl, ty_set_int, ty_set_str, ty_set_tup, ty_set_lst, ty_set_dic, ty_set_set]
    refine ⟨mulOk_nat (k := 160) a3 (by decide) (big1500 (bin_le _ _) (by omega)), w + s, t * bin (w + s) s, _, by rw [Int.natCast_mul], rfl, hm, a4⟩
  · obtain ⟨w, t, x, rfl, hx, hm, hs⟩ := h
    simp only [wp_ret, wp_stuck, wp_bnd, kb_ap, wp_lift, wo_some, wo_none, wo_ite, wo_map, wp_ite, ks_nx, ks_rt, ks_bk, ks_ct, wp_seq, wp_pk, kpk_v, kpk_ow, wp_rd, krd_v, krd_ow, wp_mv, kmv_v, kmv_ow, wp_cst, wp_use2, k2_ap, wp_op2, wp_use1, k1_ap, wp_op1, wp_useN, kN_ap, wp_opN, rsv_d, rsv_pk, ksv_v, ksv_ow, rsvs_nil, rsvs_cons, kcons_ap, wp_osN, wp_osC, wp_lsN, wp_lsC, wp_fsN, wp_fsC, wp_opd, wp_frz, wp_tupM, wp_lstM, wp_tst, ktst_bl, wp_notB, wp_andB, wp_orB, wp_andV, wp_orV, wp_notV, wp_ifE, wp_drop, wp_retM, wp_retN, fr_v, fr_un, fr_ow, pl_v, pl_un, fr_pl, frO_ap, plO_ap, slot_f, slot_t, wp_put, wp_setM, wp_parM, puts_nil, puts_cons, kt_ap, wt_N, wts_nil, wts_cons, wt_T, wp_setT, wp_tg, wp_appU, kap_ap, isL_ap, kapp_ap, wp_appE, wp_setP, kset_ap, wp_setIx, wp_setQ, wp_useF, kcall_ap, kpb_ap, kpe_ap, wp_callM, kargs_ap, argsOf_nil, argsOf_cons, argOf_d, argOf_pk, karg_v, karg_ow, pks_nil, pks_d, pks_pk, kpks_ow, kpks_v, nodupN_nil, nodupN_one, nodupN_cons, pb_nil, pb_d, pb_dU, pb_pk, kpbk_ap, kr_rt, kr_nx, kre_ap, wp_runB, back_nil, back_v, back_ow, wp_forM, wp_srcV, wp_srcA, kfor_nx, kfor_ct, kfor_bk, kfor_rt, wp_forGo_nil, wb_nil, npO_ap, wb_cons, wp_lcM, klc_ap, wp_lcB, kel_ap, kco_t, kco_f, kco_d, List.getElem?_cons_zero, List.getElem?_cons_succ, List.set_cons_zero, List.set_cons_succ, List.length_cons, List.length_nil, List.length_append, List.replicate_succ, List.replicate_zero, List.cons_append, List.nil_append, if_true, if_false, ite_true, ite_false, Bool.false_eq_true, true_and, and_true, decide_eq_true_eq, Bool.not_true, Bool.not_false, Bool.not_eq_true', decide_eq_false_iff_not, reduceIte, reduceCtorEq, Nat.zero_add, Nat.reduceAdd, Nat.reduceSub, List.contains_nil, List.contains_cons, Bool.and_true, Bool.or_false, Bool.and_self, beq_self_eq_true, Nat.reduceBEq, Nat.reduceEqDiff, Nat.succ_eq_add_one, rst, List.getD_cons_zero, List.getD_cons_succ, isF, lenF, listF, tupleF, o_int, o_inti, o_addl, o_addt, o_mulb, absF, minF, maxF, sumF, seqOf, eq_self, decide_true, decide_false, not_true_eq_false, not_false_eq_true, Bool.or_true, Bool.true_or, Bool.false_or, Bool.true_and, Bool.false_and, Bool.and_false, Option.map_some, Option.map_none, bne_f, bne_t, dec_not, fr_pl, nums_int, List.length_map, o_lt, o_le, o_gt, o_ge, o_add, o_sub, o_mul, o_div, o_mod, o_pow, o_rng1, o_rng2, at_0, at_1, at_2, at_3, at_4, at_5, at_nat, ix_0, ix_1, ix_2, ix_3, idx_l, idx_t, o_eq, o_eqb, small_nil, small_c1, small_c2, small_c3, small_c4, small_c5, small_c6, o_isi, ty_int_non, ty_int_bl, ty_int_int, ty_int_str, ty_int_tup, ty_int_lst, ty_int_dic, ty_int_set, ty_bool_non, ty_bool_bl, ty_bool_int, ty_bool_str, ty_bool_tup, ty_bool_lst, ty_bool_dic, ty_bool_set, ty_str_non, ty_str_bl, ty_str_int, ty_str_str, ty_str_tup, ty_str_lst, ty_str_dic, ty_str_set, ty_tuple_non, ty_tuple_bl, ty_tuple_int, ty_tuple_str, ty_tuple_tup, ty_tuple_lst, ty_tuple_dic, ty_tuple_set, ty_list_non, ty_list_bl, ty_list_int, ty_list_str, ty_list_tup, ty_list_lst, ty_list_dic, ty_list_set, ty_dict_non, ty_dict_bl, ty_dict_int, ty_dict_str, ty_dict_tup, ty_dict_lst, ty_dict_dic, ty_dict_set, ty_set_non, ty_set_bl, ty_set_int, ty_set_str, ty_set_tup, ty_set_lst, ty_set_dic, ty_set_set]
    have : t = mixA 0 1 ns := hm
    rw [this]
    exact q
theorem wp_rises {ns : List Nat} (h5 : ns.length ≤ 5) {Q : D × Bool → SS → Prop} {E : Ex → SS → Prop} (q : Q (.lst ((sumsA 0 ns).map natD), true) [.v (.lst (ns.map natD))]) : wp F_rises_of_counts [.v (.lst (ns.map natD))] Q E := by
  unfold F_rises_of_counts b_rises_of_counts
  simp only [wp_ret, wp_stuck, wp_bnd, kb_ap, wp_lift, wo_some, wo_none, wo_ite, wo_map, wp_ite, ks_nx, ks_rt, ks_bk, ks_ct, wp_seq, wp_pk, kpk_v, kpk_ow, wp_rd, krd_v, krd_ow, wp_mv, kmv_v, kmv_ow, wp_cst, wp_use2, k2_ap, wp_op2, wp_use1, k1_ap, wp_op1, wp_useN, kN_ap, wp_opN, rsv_d, rsv_pk, ksv_v, ksv_ow, rsvs_nil, rsvs_cons, kcons_ap, wp_osN, wp_osC, wp_lsN, wp_lsC, wp_fsN, wp_fsC, wp_opd, wp_frz, wp_tupM, wp_lstM, wp_tst, ktst_bl, wp_notB, wp_andB, wp_orB, wp_andV, wp_orV, wp_notV, wp_ifE, wp_drop, wp_retM, wp_retN, fr_v, fr_un, fr_ow, pl_v, pl_un, fr_pl, frO_ap, plO_ap, slot_f, slot_t, wp_put, wp_setM, wp_parM, puts_nil, puts_cons, kt_ap, wt_N, wts_nil, wts_cons, wt_T, wp_setT, wp_tg, wp_appU, kap_ap, isL_ap, kapp_ap, wp_appE, wp_setP, kset_ap, wp_setIx, wp_setQ, wp_useF, kcall_ap, kpb_ap, kpe_ap, wp_callM, kargs_ap, argsOf_nil, argsOf_cons, argOf_d, argOf_pk, karg_v, karg_ow, pks_nil, pks_d, pks_pk, kpks_ow, kpks_v, nodupN_nil, nodupN_one, nodupN_cons, pb_nil, pb_d, pb_dU, pb_pk, kpbk_ap, kr_rt, kr_nx, kre_ap, wp_runB, back_nil, back_v, back_ow, wp_forM, wp_srcV, wp_srcA, kfor_nx, kfor_ct, kfor_bk, kfor_rt, wp_forGo_nil, wb_nil, npO_ap, wb_cons, wp_lcM, klc_ap, wp_lcB, kel_ap, kco_t, kco_f, kco_d, List.getElem?_cons_zero, List.getElem?_cons_succ, List.set_cons_zero, List.set_cons_succ, List.length_cons, List.length_nil, List.length_append, List.replicate_succ, List.replicate_zero, List.cons_append, List.nil_append, if_true, if_false, ite_true, ite_false, Bool.false_eq_true, true_and, and_true, decide_eq_true_eq, Bool.not_true, Bool.not_false, Bool.not_eq_true', decide_eq_false_iff_not, reduceIte, reduceCtorEq, Nat.zero_add, Nat.reduceAdd, Nat.reduceSub, List.contains_nil, List.contains_cons, Bool.and_true, Bool.or_false, Bool.and_self, beq_self_eq_true, Nat.reduceBEq, Nat.reduceEqDiff, Nat.succ_eq_add_one, rst, List.getD_cons_zero, List.getD_cons_succ, isF, lenF, listF, tupleF, o_int, o_inti, o_addl, o_addt, o_mulb, absF, minF, maxF, sumF, seqOf, eq_self, decide_true, decide_false, not_true_eq_false, not_false_eq_true, Bool.or_true, Bool.true_or, Bool.false_or, Bool.true_and, Bool.false_and, Bool.and_false, Option.map_some, Option.map_none, bne_f, bne_t, dec_not, fr_pl, nums_int, List.length_map, o_lt, o_le, o_gt, o_ge, o_add, o_sub, o_mul, o_div, o_mod, o_pow, o_rng1, o_rng2, at_0, at_1, at_2, at_3, at_4, at_5, at_nat, ix_0, ix_1, ix_2, ix_3, idx_l, idx_t, o_eq, o_eqb, small_nil, small_c1, small_c2, small_c3, small_c4, small_c5, small_c6, o_isi, ty_int_non, ty_int_bl, ty_int_int, ty_int_str, ty_int_tup, ty_int_lst, ty_int_dic, ty_int_set, ty_bool_non, ty_bool_bl, ty_bool_int, ty_bool_str, ty_bool_tup, ty_bool_lst, ty_bool_dic, ty_bool_set, ty_str_non, ty_str_bl, ty_str_int, ty_str_str, ty_str_tup, ty_str_lst, ty_str_dic, ty_str_set, ty_tuple_non, ty_tuple_bl, ty_tuple_int, ty_tuple_str, ty_tuple_tup, ty_tuple_lst, ty_tuple_dic, ty_tuple_set, ty_list_non, ty_list_bl, ty_list_int, ty_list_str, ty_list_tup, ty_list_lst, ty_list_dic, ty_list_set, ty_dict_non, ty_dict_bl, ty_dict_int, ty_dict_str, ty_dict_tup, ty_dict_lst, ty_dict_dic, ty_dict_set, ty_set_non, ty_set_bl, ty_set_int, ty_set_str, ty_set_tup, ty_set_lst, ty_set_dic, ty_set_set]
  refine wp_forL (fun rem st => ∃ (w : Nat) (l : List Nat) (x : SV), st = [.v (.lst (ns.map natD)), .ow false (.lst (l.map natD)), .v (.int (w : Int)), x] ∧ pl x = true ∧ l ++ sumsA w rem = sumsA 0 ns ∧ l.length + rem.length ≤ 5) (fun s rem st h => ?_) (fun st h => ?_) ns _ ⟨0, [], _, rfl, rfl, rfl, by simpa using h5⟩
  · obtain ⟨w, l, x, rfl, hx, hm, hs⟩ := h
    simp only [List.length_cons] at hs
    simp only [wp_ret, wp_stuck, wp_bnd, kb_ap, wp_lift, wo_some, wo_none, wo_ite, wo_map, wp_ite, ks_nx, ks_rt, ks_bk, ks_ct, wp_seq, wp_pk, kpk_v, kpk_ow, wp_rd, krd_v, krd_ow, wp_mv, kmv_v, kmv_ow, wp_cst, wp_use2, k2_ap, wp_op2, wp_use1, k1_ap, wp_op1, wp_useN, kN_ap, wp_opN, rsv_d, rsv_pk, ksv_v, ksv_ow, rsvs_nil, rsvs_cons, kcons_ap, wp_osN, wp_osC, wp_lsN, wp_lsC, wp_fsN, wp_fsC, wp_opd, wp_frz, wp_tupM, wp_lstM, wp_tst, ktst_bl, wp_notB, wp_andB, wp_orB, wp_andV, wp_orV, wp_notV, wp_ifE, wp_drop, wp_retM, wp_retN, fr_v, fr_un, fr_ow, pl_v, pl_un, fr_pl, frO_ap, plO_ap, slot_f, slot_t, wp_put, wp_setM, wp_parM, puts_nil, puts_cons, kt_ap, wt_N, wts_nil, wts_cons, wt_T, wp_setT, wp_tg, wp_appU, kap_ap, isL_ap, kapp_ap, wp_appE, wp_setP, kset_ap, wp_setIx, wp_setQ, wp_useF, kcall_ap, kpb_ap, kpe_ap, wp_callM, kargs_ap, argsOf_nil, argsOf_cons, argOf_d, argOf_pk, karg_v, karg_ow, pks_nil, pks_d, pks_pk, kpks_ow, kpks_v, nodupN_nil, nodupN_one, nodupN_cons, pb_nil, pb_d, pb_dU, pb_pk, kpbk_ap, kr_rt, kr_nx, kre_ap, wp_runB, back_nil, back_v, back_ow, wp_forM, wp_srcV, wp_srcA, kfor_nx, kfor_ct, kfor_bk, kfor_rt, wp_forGo_nil, wb_nil, npO_ap, wb_cons, wp_lcM, klc_ap, wp_lcB, kel_ap, kco_t, kco_f, kco_d, List.getElem?_cons_zero, List.getElem?_cons_succ, List.set_cons_zero, List.set_cons_succ, List.length_cons, List.length_nil, List.length_append, List.replicate_succ, List.replicate_zero, List.cons_append, List.nil_append, if_true, if_false, ite_true, ite_false, Bool.false_eq_true, true_and, and_true, decide_eq_true_eq, Bool.not_true, Bool.not_false, Bool.not_eq_true', decide_eq_false_iff_not, reduceIte, reduceCtorEq, Nat.zero_add, Nat.reduceAdd, Nat.reduceSub, List.contains_nil, List.contains_cons, Bool.and_true, Bool.or_false, Bool.and_self, beq_self_eq_true, Nat.reduceBEq, Nat.reduceEqDiff, Nat.succ_eq_add_one, rst, List.getD_cons_zero, List.getD_cons_succ, isF, lenF, listF, tupleF, o_int, o_inti, o_addl, o_addt, o_mulb, absF, minF, maxF, sumF, seqOf, eq_self, decide_true, decide_false, not_true_eq_false, not_false_eq_true, Bool.or_true, Bool.true_or, Bool.false_or, Bool.true_and, Bool.false_and, Bool.and_false, Option.map_some, Option.map_none, bne_f, bne_t, dec_not, fr_pl, nums_int, List.length_map, o_lt, o_le, o_gt, o_ge, o_add, o_sub, o_mul, o_div, o_mod, o_pow, o_rng1, o_rng2, at_0, at_1, at_2, at_3, at_4, at_5, at_nat, ix_0, ix_1, ix_2, ix_3, idx_l, idx_t, o_eq, o_eqb, small_nil, small_c1, small_c2, small_c3, small_c4, small_c5, small_c6, o_isi, ty_int_non, ty_int_bl, ty_int_int, ty_int_str, ty_int_tup, ty_int_lst, ty_int_dic, ty_int_set, ty_bool_non, ty_bool_bl, ty_bool_int, ty_bool_str, ty_bool_tup, ty_bool_lst, ty_bool_dic, ty_bool_set, ty_str_non, ty_str_bl, ty_str_int, ty_str_str, ty_str_tup, ty_str_lst, ty_str_dic, ty_str_set, ty_tuple_non, ty_tuple_bl, ty_tuple_int, ty_tuple_str, ty_tuple_tup, ty_tuple_lst, ty_tuple_dic, ty_tuple_set, ty_list_non, ty_list_bl, ty_list_int, ty_list_str, ty_list_tup, ty_list_lst, ty_list_dic, ty_list_set, ty_dict_non, ty_dict_bl, ty_dict_int, ty_dict_str, ty_dict_tup, ty_dict_lst, ty_dict_dic, ty_dict_set, ty_set_non, ty_set_bl, ty_set_int, ty_set_str, ty_set_tup, ty_set_lst, ty_set_dic, ty_set_set, hx, natD]
    refine ⟨sz' (by omega), w + s, l ++ [w + s], _, by rw [List.map_append]; rfl, rfl, ?_, ?_⟩
    · rw [List.append_assoc]; exact hm
    · simp only [List.length_append, List.length_cons, List.length_nil]; omega
  · obtain ⟨w, l, x, rfl, hx, hm, hs⟩ := h
    simp only [wp_ret, wp_stuck, wp_bnd, kb_ap, wp_lift, wo_some, wo_none, wo_ite, wo_map, wp_ite, ks_nx, ks_rt, ks_bk, ks_ct, wp_seq, wp_pk, kpk_v, kpk_ow, wp_rd, krd_v, krd_ow, wp_mv, kmv_v, kmv_ow, wp_cst, wp_use2, k2_ap, wp_op2, wp_use1, k1_ap, wp_op1, wp_useN, kN_ap, wp_opN, rsv_d, rsv_pk, ksv_v, ksv_ow, rsvs_nil, rsvs_cons, kcons_ap, wp_osN, wp_osC, wp_lsN, wp_lsC, wp_fsN, wp_fsC, wp_opd, wp_frz, wp_tupM, wp_lstM, wp_tst, ktst_bl, wp_notB, wp_andB, wp_orB, wp_andV, wp_orV, wp_notV, wp_ifE, wp_drop, wp_retM, wp_retN, fr_v, fr_un, fr_ow, pl_v, pl_un, fr_pl, frO_ap, plO_ap, slot_f, slot_t, wp_put, wp_setM, wp_parM, puts_nil, puts_cons, kt_ap, wt_N, wts_nil, wts_cons, wt_T, wp_setT, wp_tg, wp_appU, kap_ap, isL_ap, kapp_ap, wp_appE, wp_setP, kset_ap, wp_setIx, wp_setQ, wp_useF, kcall_ap, kpb_ap, kpe_ap, wp_callM, kargs_ap, argsOf_nil, argsOf_cons, argOf_d, argOf_pk, karg_v, karg_ow, pks_nil, pks_d, pks_pk, kpks_ow, kpks_v, nodupN_nil, nodupN_one, nodupN_cons, pb_nil, pb_d, pb_dU, pb_pk, kpbk_ap, kr_rt, kr_nx, kre_ap, wp_runB, back_nil, back_v, back_ow, wp_forM, wp_srcV, wp_srcA, kfor_nx, kfor_ct, kfor_bk, kfor_rt, wp_forGo_nil, wb_nil, npO_ap, wb_cons, wp_lcM, klc_ap, wp_lcB, kel_ap, kco_t, kco_f, kco_d, List.getElem?_cons_zero, List.getElem?_cons_succ, List.set_cons_zero, List.set_cons_succ, List.length_cons, List.length_nil, List.length_append, List.replicate_succ, List.replicate_zero, List.cons_append, List.nil_append, if_true, if_false, ite_true, ite_false, Bool.false_eq_true, true_and, and_true, decide_eq_true_eq, Bool.not_true, Bool.not_false, Bool.not_eq_true', decide_eq_false_iff_not, reduceIte, reduceCtorEq, Nat.zero_add, Nat.reduceAdd, Nat.reduceSub, List.contains_nil, List.contains_cons, Bool.and_true, Bool.or_false, Bool.and_self, beq_self_eq_true, Nat.reduceBEq, Nat.reduceEqDiff, Nat.succ_eq_add_one, rst, List.getD_cons_zero, List.getD_cons_succ, isF, lenF, listF, tupleF, o_int, o_inti, o_addl, o_addt, o_mulb, absF, minF, maxF, sumF, seqOf, eq_self, decide_true, decide_false, not_true_eq_false, not_false_eq_true, Bool.or_true, Bool.true_or, Bool.false_or, Bool.true_and, Bool.false_and, Bool.and_false, Option.map_some, Option.map_none, bne_f, bne_t, dec_not, fr_pl, nums_int, List.length_map, o_lt, o_le, o_gt, o_ge, o_add, o_sub, o_mul, o_div, o_mod, o_pow, o_rng1, o_rng2, at_0, at_1, at_2, at_3, at_4, at_5, at_nat, ix_0, ix_1, ix_2, ix_3, idx_l, idx_t, o_eq, o_eqb, small_nil, small_c1, small_c2, small_c3, small_c4, small_c5, small_c6, o_isi, ty_int_non, ty_int_bl, ty_int_int, ty_int_str, ty_int_tup, ty_int_lst, ty_int_dic, ty_int_set, ty_bool_non, ty_bool_bl, ty_bool_int, ty_bool_str, ty_bool_tup, ty_bool_lst, ty_bool_dic, ty_bool_set, ty_str_non, ty_str_bl, ty_str_int, ty_str_str, ty_str_tup, ty_str_lst, ty_str_dic, ty_str_set, ty_tuple_non, ty_tuple_bl, ty_tuple_int, ty_tuple_str, ty_tuple_tup, ty_tuple_lst, ty_tuple_dic, ty_tuple_set, ty_list_non, ty_list_bl, ty_list_int, ty_list_str, ty_list_tup, ty_list_lst, ty_list_dic, ty_list_set, ty_dict_non, ty_dict_bl, ty_dict_int, ty_dict_str, ty_dict_tup, ty_dict_lst, ty_dict_dic, ty_dict_set, ty_set_non, ty_set_bl, ty_set_int, ty_set_str, ty_set_tup, ty_set_lst, ty_set_dic, ty_set_set]
    have : l = sumsA 0 ns := by simpa [sumsA] using hm
    rw [this]
    exact q
theorem wp_chooseI {x y : Int} {n k : Nat} (hx : x = (n : Int)) (hy : y = (k : Int)) (hn : n ≤ 150) (hk : k ≤ n) {Q : D × Bool → SS → Prop} {E : Ex → SS → Prop} (q : Q (.int (bin n k : Nat), false) [.v (.int x), .v (.int y)]) : wp F_choose [.v (.int x), .v (.int y)] Q E := by
  subst hx hy
  exact wp_choose hn hk q
theorem wp_mixtures_at {s o p b : Nat} (h1 : 1 ≤ p) (h2 : p ≤ s) (h3 : b ≤ o) (h4 : s ≤ 5) (h5 : o ≤ 5) {Q : D × Bool → SS → Prop} {E : Ex → SS → Prop} (q : Q (natD (bin (p - 1 + b) b * bin (s - p + o - b) (o - b)), false) [.v (.int (s : Int)), .v (.int (o : Int)), .v (.int (p : Int)), .v (.int (b : Int))]) :
    wp F_mixtures_at [.v (.int (s : Int)), .v (.int (o : Int)), .v (.int (p : Int)), .v (.int (b : Int))] Q E := by
  unfold F_mixtures_at b_mixtures_at
  simp only [wp_ret, wp_stuck, wp_bnd, kb_ap, wp_lift, wo_some, wo_none, wo_ite, wo_map, wp_ite, ks_nx, ks_rt, ks_bk, ks_ct, wp_seq, wp_pk, kpk_v, kpk_ow, wp_rd, krd_v, krd_ow, wp_mv, kmv_v, kmv_ow, wp_cst, wp_use2, k2_ap, wp_op2, wp_use1, k1_ap, wp_op1, wp_useN, kN_ap, wp_opN, rsv_d, rsv_pk, ksv_v, ksv_ow, rsvs_nil, rsvs_cons, kcons_ap, wp_osN, wp_osC, wp_lsN, wp_lsC, wp_fsN, wp_fsC, wp_opd, wp_frz, wp_tupM, wp_lstM, wp_tst, ktst_bl, wp_notB, wp_andB, wp_orB, wp_andV, wp_orV, wp_notV, wp_ifE, wp_drop, wp_retM, wp_retN, fr_v, fr_un, fr_ow, pl_v, pl_un, fr_pl, frO_ap, plO_ap, slot_f, slot_t, wp_put, wp_setM, wp_parM, puts_nil, puts_cons, kt_ap, wt_N, wts_nil, wts_cons, wt_T, wp_setT, wp_tg, wp_appU, kap_ap, isL_ap, kapp_ap, wp_appE, wp_setP, kset_ap, wp_setIx, wp_setQ, wp_useF, kcall_ap, kpb_ap, kpe_ap, wp_callM, kargs_ap, argsOf_nil, argsOf_cons, argOf_d, argOf_pk, karg_v, karg_ow, pks_nil, pks_d, pks_pk, kpks_ow, kpks_v, nodupN_nil, nodupN_one, nodupN_cons, pb_nil, pb_d, pb_dU, pb_pk, kpbk_ap, kr_rt, kr_nx, kre_ap, wp_runB, back_nil, back_v, back_ow, wp_forM, wp_srcV, wp_srcA, kfor_nx, kfor_ct, kfor_bk, kfor_rt, wp_forGo_nil, wb_nil, npO_ap, wb_cons, wp_lcM, klc_ap, wp_lcB, kel_ap, kco_t, kco_f, kco_d, List.getElem?_cons_zero, List.getElem?_cons_succ, List.set_cons_zero, List.set_cons_succ, List.length_cons, List.length_nil, List.length_append, List.replicate_succ, List.replicate_zero, List.cons_append, List.nil_append, if_true, if_false, ite_true, ite_false, Bool.false_eq_true, true_and, and_true, decide_eq_true_eq, Bool.not_true, Bool.not_false, Bool.not_eq_true', decide_eq_false_iff_not, reduceIte, reduceCtorEq, Nat.zero_add, Nat.reduceAdd, Nat.reduceSub, List.contains_nil, List.contains_cons, Bool.and_true, Bool.or_false, Bool.and_self, beq_self_eq_true, Nat.reduceBEq, Nat.reduceEqDiff, Nat.succ_eq_add_one, rst, List.getD_cons_zero, List.getD_cons_succ, isF, lenF, listF, tupleF, o_int, o_inti, o_addl, o_addt, o_mulb, absF, minF, maxF, sumF, seqOf, eq_self, decide_true, decide_false, not_true_eq_false, not_false_eq_true, Bool.or_true, Bool.true_or, Bool.false_or, Bool.true_and, Bool.false_and, Bool.and_false, Option.map_some, Option.map_none, bne_f, bne_t, dec_not, fr_pl, nums_int, List.length_map, o_lt, o_le, o_gt, o_ge, o_add, o_sub, o_mul, o_div, o_mod, o_pow, o_rng1, o_rng2, at_0, at_1, at_2, at_3, at_4, at_5, at_nat, ix_0, ix_1, ix_2, ix_3, idx_l, idx_t, o_eq, o_eqb, small_nil, small_c1, small_c2, small_c3, small_c4, small_c5, small_c6, o_isi, ty_int_non, ty_int_bl, ty_int_int, ty_int_str, ty_int_tup, ty_int_lst, ty_int_dic, ty_int_set, ty_bool_non, ty_bool_bl, ty_bool_int, ty_bool_str, ty_bool_tup, ty_bool_lst, ty_bool_dic, ty_bool_set, ty_str_non, ty_str_bl, ty_str_int, ty_str_str, ty_str_tup, ty_str_lst, ty_str_dic, ty_str_set, ty_tuple_non, ty_tuple_bl, ty_tuple_int, ty_tuple_str, ty_tuple_tup, ty_tuple_lst, ty_tuple_dic, ty_tuple_set, ty_list_non, ty_list_bl, ty_list_int, ty_list_str, ty_list_tup, ty_list_lst, ty_list_dic, ty_list_set, ty_dict_non, ty_dict_bl, ty_dict_int, ty_dict_str, ty_dict_tup, ty_dict_lst, ty_dict_dic, ty_dict_set, ty_set_non, ty_set_bl, ty_set_int, ty_set_str, ty_set_tup, ty_set_lst, ty_set_dic, ty_set_set]
  refine wp_chooseI (n := p - 1 + b) (k := b) (by omega) rfl (by omega) (by omega) ?_
  simp only [wp_ret, wp_stuck, wp_bnd, kb_ap, wp_lift, wo_some, wo_none, wo_ite, wo_map, wp_ite, ks_nx, ks_rt, ks_bk, ks_ct, wp_seq, wp_pk, kpk_v, kpk_ow, wp_rd, krd_v, krd_ow, wp_mv, kmv_v, kmv_ow, wp_cst, wp_use2, k2_ap, wp_op2, wp_use1, k1_ap, wp_op1, wp_useN, kN_ap, wp_opN, rsv_d, rsv_pk, ksv_v, ksv_ow, rsvs_nil, rsvs_cons, kcons_ap, wp_osN, wp_osC, wp_lsN, wp_lsC, wp_fsN, wp_fsC, wp_opd, wp_frz, wp_tupM, wp_lstM, wp_tst, ktst_bl, wp_notB, wp_andB, wp_orB, wp_andV, wp_orV, wp_notV, wp_ifE, wp_drop, wp_retM, wp_retN, fr_v, fr_un, fr_ow, pl_v, pl_un, fr_pl, frO_ap, plO_ap, slot_f, slot_t, wp_put, wp_setM, wp_parM, puts_nil, puts_cons, kt_ap, wt_N, wts_nil, wts_cons, wt_T, wp_setT, wp_tg, wp_appU, kap_ap, isL_ap, kapp_ap, wp_appE, wp_setP, kset_ap, wp_setIx, wp_setQ, wp_useF, kcall_ap, kpb_ap, kpe_ap, wp_callM, kargs_ap, argsOf_nil, argsOf_cons, argOf_d, argOf_pk, karg_v, karg_ow, pks_nil, pks_d, pks_pk, kpks_ow, kpks_v, nodupN_nil, nodupN_one, nodupN_cons, pb_nil, pb_d, pb_dU, pb_pk, kpbk_ap, kr_rt, kr_nx, kre_ap, wp_runB, back_nil, back_v, back_ow, wp_forM, wp_srcV, wp_srcA, kfor_nx, kfor_ct, kfor_bk, kfor_rt, wp_forGo_nil, wb_nil, npO_ap, wb_cons, wp_lcM, klc_ap, wp_lcB, kel_ap, kco_t, kco_f, kco_d, List.getElem?_cons_zero, List.getElem?_cons_succ, List.set_cons_zero, List.set_cons_succ, List.length_cons, List.length_nil, List.length_append, List.replicate_succ, List.replicate_zero, List.cons_append, List.nil_append, if_true, if_false, ite_true, ite_false, Bool.false_eq_true, true_and, and_true, decide_eq_true_eq, Bool.not_true, Bool.not_false, Bool.not_eq_true', decide_eq_false_iff_not, reduceIte, reduceCtorEq, Nat.zero_add, Nat.reduceAdd, Nat.reduceSub, List.contains_nil, List.contains_cons, Bool.and_true, Bool.or_false, Bool.and_self, beq_self_eq_true, Nat.reduceBEq, Nat.reduceEqDiff, Nat.succ_eq_add_one, rst, List.getD_cons_zero, List.getD_cons_succ, isF, lenF, listF, tupleF, o_int, o_inti, o_addl, o_addt, o_mulb, absF, minF, maxF, sumF, seqOf, eq_self, decide_true, decide_false, not_true_eq_false, not_false_eq_true, Bool.or_true, Bool.true_or, Bool.false_or, Bool.true_and, Bool.false_and, Bool.and_false, Option.map_some, Option.map_none, bne_f, bne_t, dec_not, fr_pl, nums_int, List.length_map, o_lt, o_le, o_gt, o_ge, o_add, o_sub, o_mul, o_div, o_mod, o_pow, o_rng1, o_rng2, at_0, at_1, at_2, at_3, at_4, at_5, at_nat, ix_0, ix_1, ix_2, ix_3, idx_l, idx_t, o_eq, o_eqb, small_nil, small_c1, small_c2, small_c3, small_c4, small_c5, small_c6, o_isi, ty_int_non, ty_int_bl, ty_int_int, ty_int_str, ty_int_tup, ty_int_lst, ty_int_dic, ty_int_set, ty_bool_non, ty_bool_bl, ty_bool_int, ty_bool_str, ty_bool_tup, ty_bool_lst, ty_bool_dic, ty_bool_set, ty_str_non, ty_str_bl, ty_str_int, ty_str_str, ty_str_tup, ty_str_lst, ty_str_dic, ty_str_set, ty_tuple_non, ty_tuple_bl, ty_tuple_int, ty_tuple_str, ty_tuple_tup, ty_tuple_lst, ty_tuple_dic, ty_tuple_set, ty_list_non, ty_list_bl, ty_list_int, ty_list_str, ty_list_tup, ty_list_lst, ty_list_dic, ty_list_set, ty_dict_non, ty_dict_bl, ty_dict_int, ty_dict_str, ty_dict_tup, ty_dict_lst, ty_dict_dic, ty_dict_set, ty_set_non, ty_set_bl, ty_set_int, ty_set_str, ty_set_tup, ty_set_lst, ty_set_dic, ty_set_set]
  refine wp_chooseI (n := s - p + o - b) (k := o - b) (by omega) (by omega) (by omega) (by omega) ?_
  simp only [wp_ret, wp_stuck, wp_bnd, kb_ap, wp_lift, wo_some, wo_none, wo_ite, wo_map, wp_ite, ks_nx, ks_rt, ks_bk, ks_ct, wp_seq, wp_pk, kpk_v, kpk_ow, wp_rd, krd_v, krd_ow, wp_mv, kmv_v, kmv_ow, wp_cst, wp_use2, k2_ap, wp_op2, wp_use1, k1_ap, wp_op1, wp_useN, kN_ap, wp_opN, rsv_d, rsv_pk, ksv_v, ksv_ow, rsvs_nil, rsvs_cons, kcons_ap, wp_osN, wp_osC, wp_lsN, wp_lsC, wp_fsN, wp_fsC, wp_opd, wp_frz, wp_tupM, wp_lstM, wp_tst, ktst_bl, wp_notB, wp_andB, wp_orB, wp_andV, wp_orV, wp_notV, wp_ifE, wp_drop, wp_retM, wp_retN, fr_v, fr_un, fr_ow, pl_v, pl_un, fr_pl, frO_ap, plO_ap, slot_f, slot_t, wp_put, wp_setM, wp_parM, puts_nil, puts_cons, kt_ap, wt_N, wts_nil, wts_cons, wt_T, wp_setT, wp_tg, wp_appU, kap_ap, isL_ap, kapp_ap, wp_appE, wp_setP, kset_ap, wp_setIx, wp_setQ, wp_useF, kcall_ap, kpb_ap, kpe_ap, wp_callM, kargs_ap, argsOf_nil, argsOf_cons, argOf_d, argOf_pk, karg_v, karg_ow, pks_nil, pks_d, pks_pk, kpks_ow, kpks_v, nodupN_nil, nodupN_one, nodupN_cons, pb_nil, pb_d, pb_dU, pb_pk, kpbk_ap, kr_rt, kr_nx, kre_ap, wp_runB, back_nil, back_v, back_ow, wp_forM, wp_srcV, wp_srcA, kfor_nx, kfor_ct, kfor_bk, kfor_rt, wp_forGo_nil, wb_nil, npO_ap, wb_cons, wp_lcM, klc_ap, wp_lcB, kel_ap, kco_t, kco_f, kco_d, List.getElem?_cons_zero, List.getElem?_cons_succ, List.set_cons_zero, List.set_cons_succ, List.length_cons, List.length_nil, List.length_append, List.replicate_succ, List.replicate_zero, List.cons_append, List.nil_append, if_true, if_false, ite_true, ite_false, Bool.false_eq_true, true_and, and_true, decide_eq_true_eq, Bool.not_true, Bool.not_false, Bool.not_eq_true', decide_eq_false_iff_not, reduceIte, reduceCtorEq, Nat.zero_add, Nat.reduceAdd, Nat.reduceSub, List.contains_nil, List.contains_cons, Bool.and_true, Bool.or_false, Bool.and_self, beq_self_eq_true, Nat.reduceBEq, Nat.reduceEqDiff, Nat.succ_eq_add_one, rst, List.getD_cons_zero, List.getD_cons_succ, isF, lenF, listF, tupleF, o_int, o_inti, o_addl, o_addt, o_mulb, absF, minF, maxF, sumF, seqOf, eq_self, decide_true, decide_false, not_true_eq_false, not_false_eq_true, Bool.or_true, Bool.true_or, Bool.false_or, Bool.true_and, Bool.false_and, Bool.and_false, Option.map_some, Option.map_none, bne_f, bne_t, dec_not, fr_pl, nums_int, List.length_map, o_lt, o_le, o_gt, o_ge, o_add, o_sub, o_mul, o_div, o_mod, o_pow, o_rng1, o_rng2, at_0, at_1, at_2, at_3, at_4, at_5, at_nat, ix_0, ix_1, ix_2, ix_3, idx_l, idx_t, o_eq, o_eqb, small_nil, small_c1, small_c2, small_c3, small_c4, small_c5, small_c6, o_isi, ty_int_non, ty_int_bl, ty_int_int, ty_int_str, ty_int_tup, ty_int_lst, ty_int_dic, ty_int_set, ty_bool_non, ty_bool_bl, ty_bool_int, ty_bool_str, ty_bool_tup, ty_bool_lst, ty_bool_dic, ty_bool_set, ty_str_non, ty_str_bl, ty_str_int, ty_str_str, ty_str_tup, ty_str_lst, ty_str_dic, ty_str_set, ty_tuple_non, ty_tuple_bl, ty_tuple_int, ty_tuple_str, ty_tuple_tup, ty_tuple_lst, ty_tuple_dic, ty_tuple_set, ty_list_non, ty_list_bl, ty_list_int, ty_list_str, ty_list_tup, ty_list_lst, ty_list_dic, ty_list_set, ty_dict_non, ty_dict_bl, ty_dict_int, ty_dict_str, ty_dict_tup, ty_dict_lst, ty_dict_dic, ty_dict_set, ty_set_non, ty_set_bl, ty_set_int, ty_set_str, ty_set_tup, ty_set_lst, ty_set_dic, ty_set_set]
  refine ⟨mulOk_nat (k := 150) (Nat.le_trans (bin_le _ _) (Nat.pow_le_pow_right (by decide) (by omega))) (by decide) (big1500 (bin_le _ _) (by omega)), ?_⟩
  unfold natD at q
  rw [Int.natCast_mul] at q
  exact q
/-! rows -/
def encR (r : List Int) : D := .tup (r.map .int)
def nextR (s o : Int) (r : List Int) : List (List Int) := (if r.sum < s then [r ++ [1]] else []) ++ (if (r.length : Int) - r.sum < o then [r ++ [0]] else [])
def rowsP (s o : Int) : Nat → List (List Int)
  | 0 => [[]]
  | k + 1 => (rowsP s o k).flatMap (nextR s o)
theorem next_len (s o : Int) (r : List Int) : (nextR s o r).length ≤ 2 := by
  unfold nextR
  split <;> split <;> simp
theorem flat_len (s o : Int) : ∀ l : List (List Int), (l.flatMap (nextR s o)).length ≤ 2 * l.length
  | [] => by simp
  | r :: l => by
    have := flat_len s o l
    have := next_len s o r
    simp only [List.flatMap_cons, List.length_append, List.length_cons]
    omega
theorem rows_len (s o : Int) : ∀ k, (rowsP s o k).length ≤ 2 ^ k
  | 0 => Nat.le_refl 1
  | k + 1 => by
    have a := rows_len s o k
    have b := flat_len s o (rowsP s o k)
    show ((rowsP s o k).flatMap (nextR s o)).length ≤ _
    rw [Nat.pow_succ]
    omega
theorem rows_row (s o : Int) : ∀ k r, r ∈ rowsP s o k → r.length = k
  | 0, r, h => by
    simp only [rowsP, List.mem_singleton] at h
    subst h; rfl
  | k + 1, r, h => by
    simp only [rowsP, List.mem_flatMap] at h
    obtain ⟨q, hq, hr⟩ := h
    have := rows_row s o k q hq
    unfold nextR at hr
    rcases List.mem_append.mp hr with hr | hr
    · split at hr
      · simp only [List.mem_singleton] at hr
        subst hr
        simp [this]
      · cases hr
    · split at hr
      · simp only [List.mem_singleton] at hr
        subst hr
        simp [this]
      · cases hr
def slR (i : Nat) (d : D) : SV := match i with
  | 0 => .ow false d
  | _ + 1 => .v d
theorem fr_slR {i : Nat} {d : D} : fr (slR i d) = true := by cases i <;> rfl
theorem krd_slR {Q : D × Bool → SS → Prop} {st : SS} {i j : Nat} {d : D} (hs : st[j]? = some (slR i d)) : krd Q st j (some (slR i d)) = Q (d, false) (st.set j (.v d)) := by
  cases i with
  | zero => rfl
  | succ i =>
    have e : st.set j (.v d) = st := by
      refine List.ext_getElem? fun k => ?_
      rw [List.getElem?_set]
      split
      · rename_i h
        subst h
        rw [hs]
        have : j < st.length := by
          by_cases z : j < st.length
          · exact z
          · rw [List.getElem?_eq_none (by omega)] at hs; cases hs
        simp [this, slR]
      · rfl
    show Q (d, false) st = _
    rw [e]
theorem app_enc {r : List Int} {c : Int} : addF (.tup (r.map .int)) (.tup [.int c]) = if r.length + 1 ≤ sizeLine then some (encR (r ++ [c]), false) else none := by
  show (if (r.map D.int).length + 1 ≤ sizeLine then _ else _) = _
  rw [List.length_map]
  unfold encR
  rw [List.map_append]
  rfl
theorem wp_rows {s o : Nat} (hs : 1 ≤ s) (hs5 : s ≤ 5) (ho : o ≤ 5) {Q : D × Bool → SS → Prop} {E : Ex → SS → Prop} (q : Q (.lst ((rowsP s o (s + o)).map encR), false) [.v (.int (s : Int)), .v (.int (o : Int))]) : wp F__law_rows [.v (.int (s : Int)), .v (.int (o : Int))] Q E := by
  unfold F__law_rows b__law_rows
  simp only [wp_ret, wp_stuck, wp_bnd, kb_ap, wp_lift, wo_some, wo_none, wo_ite, wo_map, wp_ite, ks_nx, ks_rt, ks_bk, ks_ct, wp_seq, wp_pk, kpk_v, kpk_ow, wp_rd, krd_v, krd_ow, wp_mv, kmv_v, kmv_ow, wp_cst, wp_use2, k2_ap, wp_op2, wp_use1, k1_ap, wp_op1, wp_useN, kN_ap, wp_opN, rsv_d, rsv_pk, ksv_v, ksv_ow, rsvs_nil, rsvs_cons, kcons_ap, wp_osN, wp_osC, wp_lsN, wp_lsC, wp_fsN, wp_fsC, wp_opd, wp_frz, wp_tupM, wp_lstM, wp_tst, ktst_bl, wp_notB, wp_andB, wp_orB, wp_andV, wp_orV, wp_notV, wp_ifE, wp_drop, wp_retM, wp_retN, fr_v, fr_un, fr_ow, pl_v, pl_un, fr_pl, frO_ap, plO_ap, slot_f, slot_t, wp_put, wp_setM, wp_parM, puts_nil, puts_cons, kt_ap, wt_N, wts_nil, wts_cons, wt_T, wp_setT, wp_tg, wp_appU, kap_ap, isL_ap, kapp_ap, wp_appE, wp_setP, kset_ap, wp_setIx, wp_setQ, wp_useF, kcall_ap, kpb_ap, kpe_ap, wp_callM, kargs_ap, argsOf_nil, argsOf_cons, argOf_d, argOf_pk, karg_v, karg_ow, pks_nil, pks_d, pks_pk, kpks_ow, kpks_v, nodupN_nil, nodupN_one, nodupN_cons, pb_nil, pb_d, pb_dU, pb_pk, kpbk_ap, kr_rt, kr_nx, kre_ap, wp_runB, back_nil, back_v, back_ow, wp_forM, wp_srcV, wp_srcA, kfor_nx, kfor_ct, kfor_bk, kfor_rt, wp_forGo_nil, wb_nil, npO_ap, wb_cons, wp_lcM, klc_ap, wp_lcB, kel_ap, kco_t, kco_f, kco_d, List.getElem?_cons_zero, List.getElem?_cons_succ, List.set_cons_zero, List.set_cons_succ, List.length_cons, List.length_nil, List.length_append, List.replicate_succ, List.replicate_zero, List.cons_append, List.nil_append, if_true, if_false, ite_true, ite_false, Bool.false_eq_true, true_and, and_true, decide_eq_true_eq, Bool.not_true, Bool.not_false, Bool.not_eq_true', decide_eq_false_iff_not, reduceIte, reduceCtorEq, Nat.zero_add, Nat.reduceAdd, Nat.reduceSub, List.contains_nil, List.contains_cons, Bool.and_true, Bool.or_false, Bool.and_self, beq_self_eq_true, Nat.reduceBEq, Nat.reduceEqDiff, Nat.succ_eq_add_one, rst, List.getD_cons_zero, List.getD_cons_succ, isF, lenF, listF, tupleF, o_int, o_inti, o_addl, o_addt, o_mulb, absF, minF, maxF, sumF, seqOf, eq_self, decide_true, decide_false, not_true_eq_false, not_false_eq_true, Bool.or_true, Bool.true_or, Bool.false_or, Bool.true_and, Bool.false_and, Bool.and_false, Option.map_some, Option.map_none, bne_f, bne_t, dec_not, fr_pl, nums_int, List.length_map, o_lt, o_le, o_gt, o_ge, o_add, o_sub, o_mul, o_div, o_mod, o_pow, o_rng1, o_rng2, at_0, at_1, at_2, at_3, at_4, at_5, at_nat, ix_0, ix_1, ix_2, ix_3, idx_l, idx_t, o_eq, o_eqb, small_nil, small_c1, small_c2, small_c3, small_c4, small_c5, small_c6, o_isi, ty_int_non, ty_int_bl, ty_int_int, ty_int_str, ty_int_tup, ty_int_lst, ty_int_dic, ty_int_set, ty_bool_non, ty_bool_bl, ty_bool_int, ty_bool_str, ty_bool_tup, ty_bool_lst, ty_bool_dic, ty_bool_set, ty_str_non, ty_str_bl, ty_str_int, ty_str_str, ty_str_tup, ty_str_lst, ty_str_dic, ty_str_set, ty_tuple_non, ty_tuple_bl, ty_tuple_int, ty_tuple_str, ty_tuple_tup, ty_tuple_lst, ty_tuple_dic, ty_tuple_set, ty_list_non, ty_list_bl, ty_list_int, ty_list_str, ty_list_tup, ty_list_lst, ty_list_dic, ty_list_set, ty_dict_non, ty_dict_bl, ty_dict_int, ty_dict_str, ty_dict_tup, ty_dict_lst, ty_dict_dic, ty_dict_set, ty_set_non, ty_set_bl, ty_set_int, ty_set_str, ty_set_tup, ty_set_lst, ty_set_dic, ty_set_set]
  refine ⟨inB_of (by omega) (by omega), ?_⟩
  refine wp_for (fun i st => ∃ x y z, st = [.v (.int (s : Int)), .v (.int (o : Int)), slR i (.lst ((rowsP s o i).map encR)), x, y, z] ∧ pl x = true ∧ pl y = true ∧ pl z = true) ⟨_, _, _, rfl, rfl, rfl, rfl⟩ (fun i d st e h => ?_) fun st h => ?_
  · obtain ⟨x, y, z, rfl, hx, hy, hz⟩ := h
    obtain ⟨hi, rfl⟩ := intsF_get e
    have hl := rows_len s o i
    have hl2 : 2 ^ i ≤ 2 ^ 10 := Nat.pow_le_pow_right (by decide) (by omega)
    simp only [wp_ret, wp_stuck, wp_bnd, kb_ap, wp_lift, wo_some, wo_none, wo_ite, wo_map, wp_ite, ks_nx, ks_rt, ks_bk, ks_ct, wp_seq, wp_pk, kpk_v, kpk_ow, wp_rd, krd_v, krd_ow, wp_mv, kmv_v, kmv_ow, wp_cst, wp_use2, k2_ap, wp_op2, wp_use1, k1_ap, wp_op1, wp_useN, kN_ap, wp_opN, rsv_d, rsv_pk, ksv_v, ksv_ow, rsvs_nil, rsvs_cons, kcons_ap, wp_osN, wp_osC, wp_lsN, wp_lsC, wp_fsN, wp_fsC, wp_opd, wp_frz, wp_tupM, wp_lstM, wp_tst, ktst_bl, wp_notB, wp_andB, wp_orB, wp_andV, wp_orV, wp_notV, wp_ifE, wp_drop, wp_retM, wp_retN, fr_v, fr_un, fr_ow, pl_v, pl_un, fr_pl, frO_ap, plO_ap, slot_f, slot_t, wp_put, wp_setM, wp_parM, puts_nil, puts_cons, kt_ap, wt_N, wts_nil, wts_cons, wt_T, wp_setT, wp_tg, wp_appU, kap_ap, isL_ap, kapp_ap, wp_appE, wp_setP, kset_ap, wp_setIx, wp_setQ, wp_useF, kcall_ap, kpb_ap, kpe_ap, wp_callM, kargs_ap, argsOf_nil, argsOf_cons, argOf_d, argOf_pk, karg_v, karg_ow, pks_nil, pks_d, pks_pk, kpks_ow, kpks_v, nodupN_nil, nodupN_one, nodupN_cons, pb_nil, pb_d, pb_dU, pb_pk, kpbk_ap, kr_rt, kr_nx, kre_ap, wp_runB, back_nil, back_v, back_ow, wp_forM, wp_srcV, wp_srcA, kfor_nx, kfor_ct, kfor_bk, kfor_rt, wp_forGo_nil, wb_nil, npO_ap, wb_cons, wp_lcM, klc_ap, wp_lcB, kel_ap, kco_t, kco_f, kco_d, List.getElem?_cons_zero, List.getElem?_cons_succ, List.set_cons_zero, List.set_cons_succ, List.length_cons, List.length_nil, List.length_append, List.replicate_succ, List.replicate_zero, List.cons_append, List.nil_append, if_true, if_false, ite_true, ite_false, Bool.false_eq_true, true_and, and_true, decide_eq_true_eq, Bool.not_true, Bool.not_false, Bool.not_eq_true', decide_eq_false_iff_not, reduceIte, reduceCtorEq, Nat.zero_add, Nat.reduceAdd, Nat.reduceSub, List.contains_nil, List.contains_cons, Bool.and_true, Bool.or_false, Bool.and_self, beq_self_eq_true, Nat.reduceBEq, Nat.reduceEqDiff, Nat.succ_eq_add_one, rst, List.getD_cons_zero, List.getD_cons_succ, isF, lenF, listF, tupleF, o_int, o_inti, o_addl, o_addt, o_mulb, absF, minF, maxF, sumF, seqOf, eq_self, decide_true, decide_false, not_true_eq_false, not_false_eq_true, Bool.or_true, Bool.true_or, Bool.false_or, Bool.true_and, Bool.false_and, Bool.and_false, Option.map_some, Option.map_none, bne_f, bne_t, dec_not, fr_pl, nums_int, List.length_map, o_lt, o_le, o_gt, o_ge, o_add, o_sub, o_mul, o_div, o_mod, o_pow, o_rng1, o_rng2, at_0, at_1, at_2, at_3, at_4, at_5, at_nat, ix_0, ix_1, ix_2, ix_3, idx_l, idx_t, o_eq, o_eqb, small_nil, small_c1, small_c2, small_c3, small_c4, small_c5, small_c6, o_isi, ty_int_non, ty_int_bl, ty_int_int, ty_int_str, ty_int_tup, ty_int_lst, ty_int_dic, ty_int_set, ty_bool_non, ty_bool_bl, ty_bool_int, ty_bool_str, ty_bool_tup, ty_bool_lst, ty_bool_dic, ty_bool_set, ty_str_non, ty_str_bl, ty_str_int, ty_str_str, ty_str_tup, ty_str_lst, ty_str_dic, ty_str_set, ty_tuple_non, ty_tuple_bl, ty_tuple_int, ty_tuple_str, ty_tuple_tup, ty_tuple_lst, ty_tuple_dic, ty_tuple_set, ty_list_non, ty_list_bl, ty_list_int, ty_list_str, ty_list_tup, ty_list_lst, ty_list_dic, ty_list_set, ty_dict_non, ty_dict_bl, ty_dict_int, ty_dict_str, ty_dict_tup, ty_dict_lst, ty_dict_dic, ty_dict_set, ty_set_non, ty_set_bl, ty_set_int, ty_set_str, ty_set_tup, ty_set_lst, ty_set_dic, ty_set_set, hx, hy, hz, krd_slR]
    refine wp_forL (dec := encR) (fun rem st => ∃ (l : List (List Int)) (x : SV), st = [.v (.int (s : Int)), .v (.int (o : Int)), .v (.lst ((rowsP s o i).map encR)), .v (.int (0 + (i : Int))), .ow false (.lst (l.map encR)), x] ∧ pl x = true ∧ l ++ rem.flatMap (nextR s o) = (rowsP s o i).flatMap (nextR s o) ∧ (∀ r, r ∈ rem → r.length = i)) (fun r rem st h => ?_) (fun st h => ?_) (rowsP s o i) _ ⟨[], _, rfl, hz, rfl, rows_row s o i⟩
    · obtain ⟨l, u, rfl, hu, hm, hr⟩ := h
      have hri := hr r List.mem_cons_self
      have hlen : l.length + (nextR s o r).length ≤ 2 * 1024 := by
        have a := flat_len s o (rowsP s o i)
        rw [← hm, List.flatMap_cons] at a
        simp only [List.length_append] at a
        omega
      simp only [wp_ret, wp_stuck, wp_bnd, kb_ap, wp_lift, wo_some, wo_none, wo_ite, wo_map, wp_ite, ks_nx, ks_rt, ks_bk, ks_ct, wp_seq, wp_pk, kpk_v, kpk_ow, wp_rd, krd_v, krd_ow, wp_mv, kmv_v, kmv_ow, wp_cst, wp_use2, k2_ap, wp_op2, wp_use1, k1_ap, wp_op1, wp_useN, kN_ap, wp_opN, rsv_d, rsv_pk, ksv_v, ksv_ow, rsvs_nil, rsvs_cons, kcons_ap, wp_osN, wp_osC, wp_lsN, wp_lsC, wp_fsN, wp_fsC, wp_opd, wp_frz, wp_tupM, wp_lstM, wp_tst, ktst_bl, wp_notB, wp_andB, wp_orB, wp_andV, wp_orV, wp_notV, wp_ifE, wp_drop, wp_retM, wp_retN, fr_v, fr_un, fr_ow, pl_v, pl_un, fr_pl, frO_ap, plO_ap, slot_f, slot_t, wp_put, wp_setM, wp_parM, puts_nil, puts_cons, kt_ap, wt_N, wts_nil, wts_cons, wt_T, wp_setT, wp_tg, wp_appU, kap_ap, isL_ap, kapp_ap, wp_appE, wp_setP, kset_ap, wp_setIx, wp_setQ, wp_useF, kcall_ap, kpb_ap, kpe_ap, wp_callM, kargs_ap, argsOf_nil, argsOf_cons, argOf_d, argOf_pk, karg_v, karg_ow, pks_nil, pks_d, pks_pk, kpks_ow, kpks_v, nodupN_nil, nodupN_one, nodupN_cons, pb_nil, pb_d, pb_dU, pb_pk, kpbk_ap, kr_rt, kr_nx, kre_ap, wp_runB, back_nil, back_v, back_ow, wp_forM, wp_srcV, wp_srcA, kfor_nx, kfor_ct, kfor_bk, kfor_rt, wp_forGo_nil, wb_nil, npO_ap, wb_cons, wp_lcM, klc_ap, wp_lcB, kel_ap, kco_t, kco_f, kco_d, List.getElem?_cons_zero, List.getElem?_cons_succ, List.set_cons_zero, List.set_cons_succ, List.length_cons, List.length_nil, List.length_append, List.replicate_succ, List.replicate_zero, List.cons_append, List.nil_append, if_true, if_false, ite_true, ite_false, Bool.false_eq_true, true_and, and_true, decide_eq_true_eq, Bool.not_true, Bool.not_false, Bool.not_eq_true', decide_eq_false_iff_not, reduceIte, reduceCtorEq, Nat.zero_add, Nat.reduceAdd, Nat.reduceSub, List.contains_nil, List.contains_cons, Bool.and_true, Bool.or_false, Bool.and_self, beq_self_eq_true, Nat.reduceBEq, Nat.reduceEqDiff, Nat.succ_eq_add_one, rst, List.getD_cons_zero, List.getD_cons_succ, isF, lenF, listF, tupleF, o_int, o_inti, o_addl, o_addt, o_mulb, absF, minF, maxF, sumF, seqOf, eq_self, decide_true, decide_false, not_true_eq_false, not_false_eq_true, Bool.or_true, Bool.true_or, Bool.false_or, Bool.true_and, Bool.false_and, Bool.and_false, Option.map_some, Option.map_none, bne_f, bne_t, dec_not, fr_pl, nums_int, List.length_map, o_lt, o_le, o_gt, o_ge, o_add, o_sub, o_mul, o_div, o_mod, o_pow, o_rng1, o_rng2, at_0, at_1, at_2, at_3, at_4, at_5, at_nat, ix_0, ix_1, ix_2, ix_3, idx_l, idx_t, o_eq, o_eqb, small_nil, small_c1, small_c2, small_c3, small_c4, small_c5, small_c6, o_isi, ty_int_non, ty_int_bl, ty_int_int, ty_int_str, ty_int_tup, ty_int_lst, ty_int_dic, ty_int_set, ty_bool_non, ty_bool_bl, ty_bool_int, ty_bool_str, ty_bool_tup, ty_bool_lst, ty_bool_dic, ty_bool_set, ty_str_non, ty_str_bl, ty_str_int, ty_str_str, ty_str_tup, ty_str_lst, ty_str_dic, ty_str_set, ty_tuple_non, ty_tuple_bl, ty_tuple_int, ty_tuple_str, ty_tuple_tup, ty_tuple_lst, ty_tuple_dic, ty_tuple_set, ty_list_non, ty_list_bl, ty_list_int, ty_list_str, ty_list_tup, ty_list_lst, ty_list_dic, ty_list_set, ty_dict_non, ty_dict_bl, ty_dict_int, ty_dict_str, ty_dict_tup, ty_dict_lst, ty_dict_dic, ty_dict_set, ty_set_non, ty_set_bl, ty_set_int, ty_set_str, ty_set_tup, ty_set_lst, ty_set_dic, ty_set_set, hu]
      simp only [encR, wp_ret, wp_stuck, wp_bnd, kb_ap, wp_lift, wo_some, wo_none, wo_ite, wo_map, wp_ite, ks_nx, ks_rt, ks_bk, ks_ct, wp_seq, wp_pk, kpk_v, kpk_ow, wp_rd, krd_v, krd_ow, wp_mv, kmv_v, kmv_ow, wp_cst, wp_use2, k2_ap, wp_op2, wp_use1, k1_ap, wp_op1, wp_useN, kN_ap, wp_opN, rsv_d, rsv_pk, ksv_v, ksv_ow, rsvs_nil, rsvs_cons, kcons_ap, wp_osN, wp_osC, wp_lsN, wp_lsC, wp_fsN, wp_fsC, wp_opd, wp_frz, wp_tupM, wp_lstM, wp_tst, ktst_bl, wp_notB, wp_andB, wp_orB, wp_andV, wp_orV, wp_notV, wp_ifE, wp_drop, wp_retM, wp_retN, fr_v, fr_un, fr_ow, pl_v, pl_un, fr_pl, frO_ap, plO_ap, slot_f, slot_t, wp_put, wp_setM, wp_parM, puts_nil, puts_cons, kt_ap, wt_N, wts_nil, wts_cons, wt_T, wp_setT, wp_tg, wp_appU, kap_ap, isL_ap, kapp_ap, wp_appE, wp_setP, kset_ap, wp_setIx, wp_setQ, wp_useF, kcall_ap, kpb_ap, kpe_ap, wp_callM, kargs_ap, argsOf_nil, argsOf_cons, argOf_d, argOf_pk, karg_v, karg_ow, pks_nil, pks_d, pks_pk, kpks_ow, kpks_v, nodupN_nil, nodupN_one, nodupN_cons, pb_nil, pb_d, pb_dU, pb_pk, kpbk_ap, kr_rt, kr_nx, kre_ap, wp_runB, back_nil, back_v, back_ow, wp_forM, wp_srcV, wp_srcA, kfor_nx, kfor_ct, kfor_bk, kfor_rt, wp_forGo_nil, wb_nil, npO_ap, wb_cons, wp_lcM, klc_ap, wp_lcB, kel_ap, kco_t, kco_f, kco_d, List.getElem?_cons_zero, List.getElem?_cons_succ, List.set_cons_zero, List.set_cons_succ, List.length_cons, List.length_nil, List.length_append, List.replicate_succ, List.replicate_zero, List.cons_append, List.nil_append, if_true, if_false, ite_true, ite_false, Bool.false_eq_true, true_and, and_true, decide_eq_true_eq, Bool.not_true, Bool.not_false, Bool.not_eq_true', decide_eq_false_iff_not, reduceIte, reduceCtorEq, Nat.zero_add, Nat.reduceAdd, Nat.reduceSub, List.contains_nil, List.contains_cons, Bool.and_true, Bool.or_false, Bool.and_self, beq_self_eq_true, Nat.reduceBEq, Nat.reduceEqDiff, Nat.succ_eq_add_one, rst, List.getD_cons_zero, List.getD_cons_succ, isF, lenF, listF, tupleF, o_int, o_inti, o_addl, o_addt, o_mulb, absF, minF, maxF, sumF, seqOf, eq_self, decide_true, decide_false, not_true_eq_false, not_false_eq_true, Bool.or_true, Bool.true_or, Bool.false_or, Bool.true_and, Bool.false_and, Bool.and_false, Option.map_some, Option.map_none, bne_f, bne_t, dec_not, fr_pl, nums_int, List.length_map, o_lt, o_le, o_gt, o_ge, o_add, o_sub, o_mul, o_div, o_mod, o_pow, o_rng1, o_rng2, at_0, at_1, at_2, at_3, at_4, at_5, at_nat, ix_0, ix_1, ix_2, ix_3, idx_l, idx_t, o_eq, o_eqb, small_nil, small_c1, small_c2, small_c3, small_c4, small_c5, small_c6, o_isi, ty_int_non, ty_int_bl, ty_int_int, ty_int_str, ty_int_tup, ty_int_lst, ty_int_dic, ty_int_set, ty_bool_non, ty_bool_bl, ty_bool_int, ty_bool_str, ty_bool_tup, ty_bool_lst, ty_bool_dic, ty_bool_set, ty_str_non, ty_str_bl, ty_str_int, ty_str_str, ty_str_tup, ty_str_lst, ty_str_dic, ty_str_set, ty_tuple_non, ty_tuple_bl, ty_tuple_int, ty_tuple_str, ty_tuple_tup, ty_tuple_lst, ty_tuple_dic, ty_tuple_set, ty_list_non, ty_list_bl, ty_list_int, ty_list_str, ty_list_tup, ty_list_lst, ty_list_dic, ty_list_set, ty_dict_non, ty_dict_bl, ty_dict_int, ty_dict_str, ty_dict_tup, ty_dict_lst, ty_dict_dic, ty_dict_set, ty_set_non, ty_set_bl, ty_set_int, ty_set_str, ty_set_tup, ty_set_lst, ty_set_dic, ty_set_set, List.map_cons, List.map_nil]
      have c1 := opt_len (p := r.sum < (s : Int)) (x := D.tup (List.map D.int r ++ [D.int 1]))
      have c2 := opt_len (p := (r.length : Int) - r.sum < (o : Int)) (x := D.tup (List.map D.int r ++ [D.int 0]))
      have ll : l.length ≤ 2048 := by omega
      have en : (l.map encR ++ (if r.sum < (s : Int) then [D.tup (List.map D.int r ++ [D.int 1])] else [])) ++ (if (r.length : Int) - r.sum < (o : Int) then [D.tup (List.map D.int r ++ [D.int 0])] else []) = (l ++ nextR s o r).map encR := by
        unfold nextR
        split <;> split <;> simp [encR]
      refine ⟨sz (by omega), sz (by omega), sz (by omega), sz (by omega), l ++ nextR s o r, _, by rw [en], rfl, ?_, fun q m => hr q (List.mem_cons_of_mem _ m)⟩
      · rw [List.append_assoc, ← List.flatMap_cons]
        exact hm
    · obtain ⟨l, u, rfl, hu, hm, hr⟩ := h
      simp only [wp_ret, wp_stuck, wp_bnd, kb_ap, wp_lift, wo_some, wo_none, wo_ite, wo_map, wp_ite, ks_nx, ks_rt, ks_bk, ks_ct, wp_seq, wp_pk, kpk_v, kpk_ow, wp_rd, krd_v, krd_ow, wp_mv, kmv_v, kmv_ow, wp_cst, wp_use2, k2_ap, wp_op2, wp_use1, k1_ap, wp_op1, wp_useN, kN_ap, wp_opN, rsv_d, rsv_pk, ksv_v, ksv_ow, rsvs_nil, rsvs_cons, kcons_ap, wp_osN, wp_osC, wp_lsN, wp_lsC, wp_fsN, wp_fsC, wp_opd, wp_frz, wp_tupM, wp_lstM, wp_tst, ktst_bl, wp_notB, wp_andB, wp_orB, wp_andV, wp_orV, wp_notV, wp_ifE, wp_drop, wp_retM, wp_retN, fr_v, fr_un, fr_ow, pl_v, pl_un, fr_pl, frO_ap, plO_ap, slot_f, slot_t, wp_put, wp_setM, wp_parM, puts_nil, puts_cons, kt_ap, wt_N, wts_nil, wts_cons, wt_T, wp_setT, wp_tg, wp_appU, kap_ap, isL_ap, kapp_ap, wp_appE, wp_setP, kset_ap, wp_setIx, wp_setQ, wp_useF, kcall_ap, kpb_ap, kpe_ap, wp_callM, kargs_ap, argsOf_nil, argsOf_cons, argOf_d, argOf_pk, karg_v, karg_ow, pks_nil, pks_d, pks_pk, kpks_ow, kpks_v, nodupN_nil, nodupN_one, nodupN_cons, pb_nil, pb_d, pb_dU, pb_pk, kpbk_ap, kr_rt, kr_nx, kre_ap, wp_runB, back_nil, back_v, back_ow, wp_forM, wp_srcV, wp_srcA, kfor_nx, kfor_ct, kfor_bk, kfor_rt, wp_forGo_nil, wb_nil, npO_ap, wb_cons, wp_lcM, klc_ap, wp_lcB, kel_ap, kco_t, kco_f, kco_d, List.getElem?_cons_zero, List.getElem?_cons_succ, List.set_cons_zero, List.set_cons_succ, List.length_cons, List.length_nil, List.length_append, List.replicate_succ, List.replicate_zero, List.cons_append, List.nil_append, if_true, if_false, ite_true, ite_false, Bool.false_eq_true, true_and, and_true, decide_eq_true_eq, Bool.not_true, Bool.not_false, Bool.not_eq_true', decide_eq_false_iff_not, reduceIte, reduceCtorEq, Nat.zero_add, Nat.reduceAdd, Nat.reduceSub, List.contains_nil, List.contains_cons, Bool.and_true, Bool.or_false, Bool.and_self, beq_self_eq_true, Nat.reduceBEq, Nat.reduceEqDiff, Nat.succ_eq_add_one, rst, List.getD_cons_zero, List.getD_cons_succ, isF, lenF, listF, tupleF, o_int, o_inti, o_addl, o_addt, o_mulb, absF, minF, maxF, sumF, seqOf, eq_self, decide_true, decide_false, not_true_eq_false, not_false_eq_true, Bool.or_true, Bool.true_or, Bool.false_or, Bool.true_and, Bool.false_and, Bool.and_false, Option.map_some, Option.map_none, bne_f, bne_t, dec_not, fr_pl, nums_int, List.length_map, o_lt, o_le, o_gt, o_ge, o_add, o_sub, o_mul, o_div, o_mod, o_pow, o_rng1, o_rng2, at_0, at_1, at_2, at_3, at_4, at_5, at_nat, ix_0, ix_1, ix_2, ix_3, idx_l, idx_t, o_eq, o_eqb, small_nil, small_c1, small_c2, small_c3, small_c4, small_c5, small_c6, o_isi, ty_int_non, ty_int_bl, ty_int_int, ty_int_str, ty_int_tup, ty_int_lst, ty_int_dic, ty_int_set, ty_bool_non, ty_bool_bl, ty_bool_int, ty_bool_str, ty_bool_tup, ty_bool_lst, ty_bool_dic, ty_bool_set, ty_str_non, ty_str_bl, ty_str_int, ty_str_str, ty_str_tup, ty_str_lst, ty_str_dic, ty_str_set, ty_tuple_non, ty_tuple_bl, ty_tuple_int, ty_tuple_str, ty_tuple_tup, ty_tuple_lst, ty_tuple_dic, ty_tuple_set, ty_list_non, ty_list_bl, ty_list_int, ty_list_str, ty_list_tup, ty_list_lst, ty_list_dic, ty_list_set, ty_dict_non, ty_dict_bl, ty_dict_int, ty_dict_str, ty_dict_tup, ty_dict_lst, ty_dict_dic, ty_dict_set, ty_set_non, ty_set_bl, ty_set_int, ty_set_str, ty_set_tup, ty_set_lst, ty_set_dic, ty_set_set, fr_slR]
      have : l = rowsP s o (i + 1) := by simpa [rowsP] using hm
      subst this
      exact ⟨_, _, _, rfl, rfl, rfl, hu⟩
  · obtain ⟨x, y, z, rfl, hx, hy, hz⟩ := h
    rw [intsF_len, show ((s : Int) + (o : Int)).toNat = s + o from by omega]
    cases e : s + o with
    | zero => omega
    | succ n =>
      rw [e] at q
      simp only [slR, wp_ret, wp_stuck, wp_bnd, kb_ap, wp_lift, wo_some, wo_none, wo_ite, wo_map, wp_ite, ks_nx, ks_rt, ks_bk, ks_ct, wp_seq, wp_pk, kpk_v, kpk_ow, wp_rd, krd_v, krd_ow, wp_mv, kmv_v, kmv_ow, wp_cst, wp_use2, k2_ap, wp_op2, wp_use1, k1_ap, wp_op1, wp_useN, kN_ap, wp_opN, rsv_d, rsv_pk, ksv_v, ksv_ow, rsvs_nil, rsvs_cons, kcons_ap, wp_osN, wp_osC, wp_lsN, wp_lsC, wp_fsN, wp_fsC, wp_opd, wp_frz, wp_tupM, wp_lstM, wp_tst, ktst_bl, wp_notB, wp_andB, wp_orB, wp_andV, wp_orV, wp_notV, wp_ifE, wp_drop, wp_retM, wp_retN, fr_v, fr_un, fr_ow, pl_v, pl_un, fr_pl, frO_ap, plO_ap, slot_f, slot_t, wp_put, wp_setM, wp_parM, puts_nil, puts_cons, kt_ap, wt_N, wts_nil, wts_cons, wt_T, wp_setT, wp_tg, wp_appU, kap_ap, isL_ap, kapp_ap, wp_appE, wp_setP, kset_ap, wp_setIx, wp_setQ, wp_useF, kcall_ap, kpb_ap, kpe_ap, wp_callM, kargs_ap, argsOf_nil, argsOf_cons, argOf_d, argOf_pk, karg_v, karg_ow, pks_nil, pks_d, pks_pk, kpks_ow, kpks_v, nodupN_nil, nodupN_one, nodupN_cons, pb_nil, pb_d, pb_dU, pb_pk, kpbk_ap, kr_rt, kr_nx, kre_ap, wp_runB, back_nil, back_v, back_ow, wp_forM, wp_srcV, wp_srcA, kfor_nx, kfor_ct, kfor_bk, kfor_rt, wp_forGo_nil, wb_nil, npO_ap, wb_cons, wp_lcM, klc_ap, wp_lcB, kel_ap, kco_t, kco_f, kco_d, List.getElem?_cons_zero, List.getElem?_cons_succ, List.set_cons_zero, List.set_cons_succ, List.length_cons, List.length_nil, List.length_append, List.replicate_succ, List.replicate_zero, List.cons_append, List.nil_append, if_true, if_false, ite_true, ite_false, Bool.false_eq_true, true_and, and_true, decide_eq_true_eq, Bool.not_true, Bool.not_false, Bool.not_eq_true', decide_eq_false_iff_not, reduceIte, reduceCtorEq, Nat.zero_add, Nat.reduceAdd, Nat.reduceSub, List.contains_nil, List.contains_cons, Bool.and_true, Bool.or_false, Bool.and_self, beq_self_eq_true, Nat.reduceBEq, Nat.reduceEqDiff, Nat.succ_eq_add_one, rst, List.getD_cons_zero, List.getD_cons_succ, isF, lenF, listF, tupleF, o_int, o_inti, o_addl, o_addt, o_mulb, absF, minF, maxF, sumF, seqOf, eq_self, decide_true, decide_false, not_true_eq_false, not_false_eq_true, Bool.or_true, Bool.true_or, Bool.false_or, Bool.true_and, Bool.false_and, Bool.and_false, Option.map_some, Option.map_none, bne_f, bne_t, dec_not, fr_pl, nums_int, List.length_map, o_lt, o_le, o_gt, o_ge, o_add, o_sub, o_mul, o_div, o_mod, o_pow, o_rng1, o_rng2, at_0, at_1, at_2, at_3, at_4, at_5, at_nat, ix_0, ix_1, ix_2, ix_3, idx_l, idx_t, o_eq, o_eqb, small_nil, small_c1, small_c2, small_c3, small_c4, small_c5, small_c6, o_isi, ty_int_non, ty_int_bl, ty_int_int, ty_int_str, ty_int_tup, ty_int_lst, ty_int_dic, ty_int_set, ty_bool_non, ty_bool_bl, ty_bool_int, ty_bool_str, ty_bool_tup, ty_bool_lst, ty_bool_dic, ty_bool_set, ty_str_non, ty_str_bl, ty_str_int, ty_str_str, ty_str_tup, ty_str_lst, ty_str_dic, ty_str_set, ty_tuple_non, ty_tuple_bl, ty_tuple_int, ty_tuple_str, ty_tuple_tup, ty_tuple_lst, ty_tuple_dic, ty_tuple_set, ty_list_non, ty_list_bl, ty_list_int, ty_list_str, ty_list_tup, ty_list_lst, ty_list_dic, ty_list_set, ty_dict_non, ty_dict_bl, ty_dict_int, ty_dict_str, ty_dict_tup, ty_dict_lst, ty_dict_dic, ty_dict_set, ty_set_non, ty_set_bl, ty_set_int, ty_set_str, ty_set_tup, ty_set_lst, ty_set_dic, ty_set_set]
      exact q
/-! the row of Pascal -/
def rowN (n : Nat) : List Nat := (List.range (n + 1)).map (bin n)
theorem rowN_get {n k : Nat} (h : k ≤ n) : (rowN n)[k]? = some (bin n k) := by
  unfold rowN
  rw [List.getElem?_map, List.getElem?_range (by omega)]
  rfl
theorem rowN_len (n : Nat) : (rowN n).length = n + 1 := by simp [rowN]
def addD : D → Option D
  | .tup [.int a, .int b] => some (.int (a + b))
  | _ => none
theorem rowN_step (n : Nat) : (List.zipWith pairF (.int 0 :: (rowN n).map natD) ((rowN n).map natD ++ [.int 0])).filterMap addD = (rowN (n + 1)).map natD := by
  have e : ∀ (a b : List Nat), (List.zipWith pairF (a.map natD) (b.map natD)).filterMap addD = (List.zipWith (· + ·) a b).map natD := fun a => by
    induction a with
    | nil => intro b; simp
    | cons x a ih =>
      intro b
      cases b with
      | nil => simp
      | cons y b =>
        simp only [List.map_cons, List.zipWith_cons_cons, List.filterMap_cons]
        rw [ih b]
        rfl
  have e1 : (D.int 0 :: (rowN n).map natD) = (0 :: rowN n).map natD := rfl
  have e2 : (rowN n).map natD ++ [.int 0] = (rowN n ++ [0]).map natD := by rw [List.map_append]; rfl
  rw [e1, e2, e]
  congr 1
  refine List.ext_getElem? fun k => ?_
  rw [List.getElem?_zipWith]
  have la := rowN_len n
  have lb := rowN_len (n + 1)
  by_cases h : k ≤ n + 1
  · rw [rowN_get h]
    cases k with
    | zero =>
      rw [List.getElem?_cons_zero, List.getElem?_append_left (by omega), rowN_get (by omega), bin_0, bin_0]
    | succ k =>
      rw [List.getElem?_cons_succ, rowN_get (by omega)]
      by_cases h2 : k + 1 ≤ n
      · rw [List.getElem?_append_left (by omega), rowN_get h2]
        rfl
      · have : k + 1 = n + 1 := by omega
        rw [List.getElem?_append_right (by omega), la, this, Nat.sub_self]
        have hk : k = n := by omega
        subst hk
        show some (bin k k + 0) = some (bin k k + bin k (k + 1))
        rw [bin_gt k (k + 1) (by omega)]
  · rw [List.getElem?_eq_none (l := rowN (n + 1)) (by omega)]
    rw [List.getElem?_eq_none (l := 0 :: rowN n) (by simp only [List.length_cons]; omega)]
/-! the law -/
theorem wp_sameI {d e : D} (h : e = d) (hp : D.plain 60 d = true) {Q : D × Bool → SS → Prop} {E : Ex → SS → Prop} (q : Q (.bl true, false) [.v d, .v e]) : wp (C.F__law_same 70) [.v d, .v e] Q E := by
  subst h
  exact C.wp_same 69 e Q E (C.plain_mono 60 69 e hp (by decide)) (by decide) q
theorem plain_int {i : Int} : D.plain 60 (.int i) = true := by simp only [D.plain]
theorem plain_nats (l : List Nat) : D.plain 60 (.lst (l.map natD)) = true := by
  simp only [D.plain]
  refine C.plains_of fun d m => ?_
  obtain ⟨x, _, rfl⟩ := List.mem_map.mp m
  rfl
theorem intsF_get0 {n i : Nat} {d : D} (h : (intsF 0 n)[i]? = some d) : i < n ∧ d = .int (i : Int) := by
  obtain ⟨a, b⟩ := intsF_get h
  exact ⟨a, by rw [b, Int.zero_add]⟩
theorem zip_nat {a b : List Nat} {d : D} (h : d ∈ List.zipWith pairF (a.map natD) (b.map natD)) : ∃ x y : Nat, d = .tup [natD x, natD y] := by
  induction a generalizing b with
  | nil => simp at h
  | cons x a ih =>
    cases b with
    | nil => simp at h
    | cons y b =>
      simp only [List.map_cons, List.zipWith_cons_cons] at h
      rcases List.mem_cons.mp h with h | h
      · exact ⟨x, y, h⟩
      · exact ih h
theorem due_step {t n k : Nat} (h : k ≤ n) : ((t * bin n k : Nat) : Int) * ((n : Int) - (k : Int)) / ((k : Int) + 1) = ((t * bin n (k + 1) : Nat) : Int) := by
  have a := bin_row n k
  have a2 : ((k : Int) + 1) * (bin n (k + 1) : Nat) + (k : Int) * (bin n k : Nat) = (n : Int) * (bin n k : Nat) := by exact_mod_cast a
  have b : (bin n k : Int) * ((n : Int) - (k : Int)) = ((k : Int) + 1) * (bin n (k + 1) : Nat) := by
    rw [Int.mul_sub, Int.mul_comm _ (n : Int), Int.mul_comm _ (k : Int)]
    omega
  rw [Int.natCast_mul, Int.natCast_mul, Int.mul_assoc, b, Int.mul_left_comm]
  exact Int.mul_ediv_cancel_left _ (by omega)
/-! where the ones stand -/
def onesAt (r : List Int) : List Int := ((List.range r.length).filter fun k => r.getD k 0 = 1).map fun (k : Nat) => (k : Int)
def oneF (r : List Int) : D → Option D
  | .int i => if r.getD i.toNat 0 = 1 then some (.int i) else none
  | _ => none
theorem ones_f (r : List Int) : (intsF 0 r.length).filterMap (oneF r) = (onesAt r).map .int := by
  unfold intsF onesAt
  induction List.range r.length with
  | nil => rfl
  | cons k l ih =>
    simp only [List.map_cons, List.filterMap_cons, List.filter_cons]
    rw [ih]
    simp only [oneF, Int.zero_add, Int.toNat_natCast]
    by_cases h : r.getD k 0 = 1
    · simp only [h, if_true, decide_true, List.map_cons]
    · simp only [h, if_false, decide_false, Bool.false_eq_true]
def atR (p : Nat) (r : List Int) : Int := (onesAt r).getD p 0
def cnt (p b : Nat) (rs : List (List Int)) : Nat := (rs.filter fun r => atR p r - (1 + (p : Int)) + 1 = (b : Int)).length
def chk2 (s o : Nat) (rs : List (List Int)) : Bool := mixA 0 1 [s, o] == rs.length && mixA 0 1 [o, s] == rs.length && rs.all (fun r => (onesAt r).length == s) &&
  (List.range s).all fun p => (List.range (o + 1)).all fun b => cnt p b rs == bin (p + b) b * bin (s - (p + 1) + o - b) (o - b)
def chk (s o : Nat) : Bool := chk2 s o (rowsP s o (s + o))
theorem chk_all : ((List.range 5).all fun s => (List.range 6).all fun o => chk (s + 1) o) = true := by decide +kernel
theorem chk_of {s o : Nat} (h1 : 1 ≤ s) (h2 : s ≤ 5) (h3 : o ≤ 5) : chk s o = true := by
  have a := List.all_eq_true.mp chk_all (s - 1) (List.mem_range.mpr (by omega))
  have b := List.all_eq_true.mp a o (List.mem_range.mpr (by omega))
  rw [show s - 1 + 1 = s from by omega] at b
  exact b
theorem law_true (ns : List Int) (hns : ns.length ≤ 63) : ∃ svs', F_law [.v (.lst (ns.map .int))] = some (.ok (.bl true, false), svs') := by
  apply ex_wp
  unfold F_law b_law
  simp only [wp_ret, wp_stuck, wp_bnd, kb_ap, wp_lift, wo_some, wo_none, wo_ite, wo_map, wp_ite, ks_nx, ks_rt, ks_bk, ks_ct, wp_seq, wp_pk, kpk_v, kpk_ow, wp_rd, krd_v, krd_ow, wp_mv, kmv_v, kmv_ow, wp_cst, wp_use2, k2_ap, wp_op2, wp_use1, k1_ap, wp_op1, wp_useN, kN_ap, wp_opN, rsv_d, rsv_pk, ksv_v, ksv_ow, rsvs_nil, rsvs_cons, kcons_ap, wp_osN, wp_osC, wp_lsN, wp_lsC, wp_fsN, wp_fsC, wp_opd, wp_frz, wp_tupM, wp_lstM, wp_tst, ktst_bl, wp_notB, wp_andB, wp_orB, wp_andV, wp_orV, wp_notV, wp_ifE, wp_drop, wp_retM, wp_retN, fr_v, fr_un, fr_ow, pl_v, pl_un, fr_pl, frO_ap, plO_ap, slot_f, slot_t, wp_put, wp_setM, wp_parM, puts_nil, puts_cons, kt_ap, wt_N, wts_nil, wts_cons, wt_T, wp_setT, wp_tg, wp_appU, kap_ap, isL_ap, kapp_ap, wp_appE, wp_setP, kset_ap, wp_setIx, wp_setQ, wp_useF, kcall_ap, kpb_ap, kpe_ap, wp_callM, kargs_ap, argsOf_nil, argsOf_cons, argOf_d, argOf_pk, karg_v, karg_ow, pks_nil, pks_d, pks_pk, kpks_ow, kpks_v, nodupN_nil, nodupN_one, nodupN_cons, pb_nil, pb_d, pb_dU, pb_pk, kpbk_ap, kr_rt, kr_nx, kre_ap, wp_runB, back_nil, back_v, back_ow, wp_forM, wp_srcV, wp_srcA, kfor_nx, kfor_ct, kfor_bk, kfor_rt, wp_forGo_nil, wb_nil, npO_ap, wb_cons, wp_lcM, klc_ap, wp_lcB, kel_ap, kco_t, kco_f, kco_d, List.getElem?_cons_zero, List.getElem?_cons_succ, List.set_cons_zero, List.set_cons_succ, List.length_cons, List.length_nil, List.length_append, List.replicate_succ, List.replicate_zero, List.cons_append, List.nil_append, if_true, if_false, ite_true, ite_false, Bool.false_eq_true, true_and, and_true, decide_eq_true_eq, Bool.not_true, Bool.not_false, Bool.not_eq_true', decide_eq_false_iff_not, reduceIte, reduceCtorEq, Nat.zero_add, Nat.reduceAdd, Nat.reduceSub, List.contains_nil, List.contains_cons, Bool.and_true, Bool.or_false, Bool.and_self, beq_self_eq_true, Nat.reduceBEq, Nat.reduceEqDiff, Nat.succ_eq_add_one, rst, List.getD_cons_zero, List.getD_cons_succ, isF, lenF, listF, tupleF, o_int, o_inti, o_addl, o_addt, o_mulb, absF, minF, maxF, sumF, seqOf, eq_self, decide_true, decide_false, not_true_eq_false, not_false_eq_true, Bool.or_true, Bool.true_or, Bool.false_or, Bool.true_and, Bool.false_and, Bool.and_false, Option.map_some, Option.map_none, bne_f, bne_t, dec_not, fr_pl, nums_int, List.length_map, o_lt, o_le, o_gt, o_ge, o_add, o_sub, o_mul, o_div, o_mod, o_pow, o_rng1, o_rng2, at_0, at_1, at_2, at_3, at_4, at_5, at_nat, ix_0, ix_1, ix_2, ix_3, idx_l, idx_t, o_eq, o_eqb, small_nil, small_c1, small_c2, small_c3, small_c4, small_c5, small_c6, o_isi, ty_int_non, ty_int_bl, ty_int_int, ty_int_str, ty_int_tup, ty_int_lst, ty_int_dic, ty_int_set, ty_bool_non, ty_bool_bl, ty_bool_int, ty_bool_str, ty_bool_tup, ty_bool_lst, ty_bool_dic, ty_bool_set, ty_str_non, ty_str_bl, ty_str_int, ty_str_str, ty_str_tup, ty_str_lst, ty_str_dic, ty_str_set, ty_tuple_non, ty_tuple_bl, ty_tuple_int, ty_tuple_str, ty_tuple_tup, ty_tuple_lst, ty_tuple_dic, ty_tuple_set, ty_list_non, ty_list_bl, ty_list_int, ty_list_str, ty_list_tup, ty_list_lst, ty_list_dic, ty_list_set, ty_dict_non, ty_dict_bl, ty_dict_int, ty_dict_str, ty_dict_tup, ty_dict_lst, ty_dict_dic, ty_dict_set, ty_set_non, ty_set_bl, ty_set_int, ty_set_str, ty_set_tup, ty_set_lst, ty_set_dic, ty_set_set, e_box, e_draw, e_same]
  refine C.wp_box fun b hb => ?_
  simp only [wp_ret, wp_stuck, wp_bnd, kb_ap, wp_lift, wo_some, wo_none, wo_ite, wo_map, wp_ite, ks_nx, ks_rt, ks_bk, ks_ct, wp_seq, wp_pk, kpk_v, kpk_ow, wp_rd, krd_v, krd_ow, wp_mv, kmv_v, kmv_ow, wp_cst, wp_use2, k2_ap, wp_op2, wp_use1, k1_ap, wp_op1, wp_useN, kN_ap, wp_opN, rsv_d, rsv_pk, ksv_v, ksv_ow, rsvs_nil, rsvs_cons, kcons_ap, wp_osN, wp_osC, wp_lsN, wp_lsC, wp_fsN, wp_fsC, wp_opd, wp_frz, wp_tupM, wp_lstM, wp_tst, ktst_bl, wp_notB, wp_andB, wp_orB, wp_andV, wp_orV, wp_notV, wp_ifE, wp_drop, wp_retM, wp_retN, fr_v, fr_un, fr_ow, pl_v, pl_un, fr_pl, frO_ap, plO_ap, slot_f, slot_t, wp_put, wp_setM, wp_parM, puts_nil, puts_cons, kt_ap, wt_N, wts_nil, wts_cons, wt_T, wp_setT, wp_tg, wp_appU, kap_ap, isL_ap, kapp_ap, wp_appE, wp_setP, kset_ap, wp_setIx, wp_setQ, wp_useF, kcall_ap, kpb_ap, kpe_ap, wp_callM, kargs_ap, argsOf_nil, argsOf_cons, argOf_d, argOf_pk, karg_v, karg_ow, pks_nil, pks_d, pks_pk, kpks_ow, kpks_v, nodupN_nil, nodupN_one, nodupN_cons, pb_nil, pb_d, pb_dU, pb_pk, kpbk_ap, kr_rt, kr_nx, kre_ap, wp_runB, back_nil, back_v, back_ow, wp_forM, wp_srcV, wp_srcA, kfor_nx, kfor_ct, kfor_bk, kfor_rt, wp_forGo_nil, wb_nil, npO_ap, wb_cons, wp_lcM, klc_ap, wp_lcB, kel_ap, kco_t, kco_f, kco_d, List.getElem?_cons_zero, List.getElem?_cons_succ, List.set_cons_zero, List.set_cons_succ, List.length_cons, List.length_nil, List.length_append, List.replicate_succ, List.replicate_zero, List.cons_append, List.nil_append, if_true, if_false, ite_true, ite_false, Bool.false_eq_true, true_and, and_true, decide_eq_true_eq, Bool.not_true, Bool.not_false, Bool.not_eq_true', decide_eq_false_iff_not, reduceIte, reduceCtorEq, Nat.zero_add, Nat.reduceAdd, Nat.reduceSub, List.contains_nil, List.contains_cons, Bool.and_true, Bool.or_false, Bool.and_self, beq_self_eq_true, Nat.reduceBEq, Nat.reduceEqDiff, Nat.succ_eq_add_one, rst, List.getD_cons_zero, List.getD_cons_succ, isF, lenF, listF, tupleF, o_int, o_inti, o_addl, o_addt, o_mulb, absF, minF, maxF, sumF, seqOf, eq_self, decide_true, decide_false, not_true_eq_false, not_false_eq_true, Bool.or_true, Bool.true_or, Bool.false_or, Bool.true_and, Bool.false_and, Bool.and_false, Option.map_some, Option.map_none, bne_f, bne_t, dec_not, fr_pl, nums_int, List.length_map, o_lt, o_le, o_gt, o_ge, o_add, o_sub, o_mul, o_div, o_mod, o_pow, o_rng1, o_rng2, at_0, at_1, at_2, at_3, at_4, at_5, at_nat, ix_0, ix_1, ix_2, ix_3, idx_l, idx_t, o_eq, o_eqb, small_nil, small_c1, small_c2, small_c3, small_c4, small_c5, small_c6, o_isi, ty_int_non, ty_int_bl, ty_int_int, ty_int_str, ty_int_tup, ty_int_lst, ty_int_dic, ty_int_set, ty_bool_non, ty_bool_bl, ty_bool_int, ty_bool_str, ty_bool_tup, ty_bool_lst, ty_bool_dic, ty_bool_set, ty_str_non, ty_str_bl, ty_str_int, ty_str_str, ty_str_tup, ty_str_lst, ty_str_dic, ty_str_set, ty_tuple_non, ty_tuple_bl, ty_tuple_int, ty_tuple_str, ty_tuple_tup, ty_tuple_lst, ty_tuple_dic, ty_tuple_set, ty_list_non, ty_list_bl, ty_list_int, ty_list_str, ty_list_tup, ty_list_lst, ty_list_dic, ty_list_set, ty_dict_non, ty_dict_bl, ty_dict_int, ty_dict_str, ty_dict_tup, ty_dict_lst, ty_dict_dic, ty_dict_set, ty_set_non, ty_set_bl, ty_set_int, ty_set_str, ty_set_tup, ty_set_lst, ty_set_dic, ty_set_set]
  refine C.wp_draw hb (by decide) (by decide) (by decide) fun n b hn hb => ?_
  simp only [wp_ret, wp_stuck, wp_bnd, kb_ap, wp_lift, wo_some, wo_none, wo_ite, wo_map, wp_ite, ks_nx, ks_rt, ks_bk, ks_ct, wp_seq, wp_pk, kpk_v, kpk_ow, wp_rd, krd_v, krd_ow, wp_mv, kmv_v, kmv_ow, wp_cst, wp_use2, k2_ap, wp_op2, wp_use1, k1_ap, wp_op1, wp_useN, kN_ap, wp_opN, rsv_d, rsv_pk, ksv_v, ksv_ow, rsvs_nil, rsvs_cons, kcons_ap, wp_osN, wp_osC, wp_lsN, wp_lsC, wp_fsN, wp_fsC, wp_opd, wp_frz, wp_tupM, wp_lstM, wp_tst, ktst_bl, wp_notB, wp_andB, wp_orB, wp_andV, wp_orV, wp_notV, wp_ifE, wp_drop, wp_retM, wp_retN, fr_v, fr_un, fr_ow, pl_v, pl_un, fr_pl, frO_ap, plO_ap, slot_f, slot_t, wp_put, wp_setM, wp_parM, puts_nil, puts_cons, kt_ap, wt_N, wts_nil, wts_cons, wt_T, wp_setT, wp_tg, wp_appU, kap_ap, isL_ap, kapp_ap, wp_appE, wp_setP, kset_ap, wp_setIx, wp_setQ, wp_useF, kcall_ap, kpb_ap, kpe_ap, wp_callM, kargs_ap, argsOf_nil, argsOf_cons, argOf_d, argOf_pk, karg_v, karg_ow, pks_nil, pks_d, pks_pk, kpks_ow, kpks_v, nodupN_nil, nodupN_one, nodupN_cons, pb_nil, pb_d, pb_dU, pb_pk, kpbk_ap, kr_rt, kr_nx, kre_ap, wp_runB, back_nil, back_v, back_ow, wp_forM, wp_srcV, wp_srcA, kfor_nx, kfor_ct, kfor_bk, kfor_rt, wp_forGo_nil, wb_nil, npO_ap, wb_cons, wp_lcM, klc_ap, wp_lcB, kel_ap, kco_t, kco_f, kco_d, List.getElem?_cons_zero, List.getElem?_cons_succ, List.set_cons_zero, List.set_cons_succ, List.length_cons, List.length_nil, List.length_append, List.replicate_succ, List.replicate_zero, List.cons_append, List.nil_append, if_true, if_false, ite_true, ite_false, Bool.false_eq_true, true_and, and_true, decide_eq_true_eq, Bool.not_true, Bool.not_false, Bool.not_eq_true', decide_eq_false_iff_not, reduceIte, reduceCtorEq, Nat.zero_add, Nat.reduceAdd, Nat.reduceSub, List.contains_nil, List.contains_cons, Bool.and_true, Bool.or_false, Bool.and_self, beq_self_eq_true, Nat.reduceBEq, Nat.reduceEqDiff, Nat.succ_eq_add_one, rst, List.getD_cons_zero, List.getD_cons_succ, isF, lenF, listF, tupleF, o_int, o_inti, o_addl, o_addt, o_mulb, absF, minF, maxF, sumF, seqOf, eq_self, decide_true, decide_false, not_true_eq_false, not_false_eq_true, Bool.or_true, Bool.true_or, Bool.false_or, Bool.true_and, Bool.false_and, Bool.and_false, Option.map_some, Option.map_none, bne_f, bne_t, dec_not, fr_pl, nums_int, List.length_map, o_lt, o_le, o_gt, o_ge, o_add, o_sub, o_mul, o_div, o_mod, o_pow, o_rng1, o_rng2, at_0, at_1, at_2, at_3, at_4, at_5, at_nat, ix_0, ix_1, ix_2, ix_3, idx_l, idx_t, o_eq, o_eqb, small_nil, small_c1, small_c2, small_c3, small_c4, small_c5, small_c6, o_isi, ty_int_non, ty_int_bl, ty_int_int, ty_int_str, ty_int_tup, ty_int_lst, ty_int_dic, ty_int_set, ty_bool_non, ty_bool_bl, ty_bool_int, ty_bool_str, ty_bool_tup, ty_bool_lst, ty_bool_dic, ty_bool_set, ty_str_non, ty_str_bl, ty_str_int, ty_str_str, ty_str_tup, ty_str_lst, ty_str_dic, ty_str_set, ty_tuple_non, ty_tuple_bl, ty_tuple_int, ty_tuple_str, ty_tuple_tup, ty_tuple_lst, ty_tuple_dic, ty_tuple_set, ty_list_non, ty_list_bl, ty_list_int, ty_list_str, ty_list_tup, ty_list_lst, ty_list_dic, ty_list_set, ty_dict_non, ty_dict_bl, ty_dict_int, ty_dict_str, ty_dict_tup, ty_dict_lst, ty_dict_dic, ty_dict_set, ty_set_non, ty_set_bl, ty_set_int, ty_set_str, ty_set_tup, ty_set_lst, ty_set_dic, ty_set_set]
  refine ⟨inB_of (by omega) (by omega), ?_⟩
  refine wp_for (fun i st => ∃ x, st = [.v (.lst (ns.map .int)), .ow false (C.boxD b), .v (.int (n : Int)), .v (natD (fct i)), x, .un, .un, .un, .un, .un, .un, .un, .un, .un, .un, .un, .un, .un, .un, .un, .un, .un, .un, .un, .un] ∧ pl x = true) ⟨_, rfl, rfl⟩ (fun i d st e h => ?_) fun st h => ?_
  · obtain ⟨x, rfl, hx⟩ := h
    obtain ⟨hi, rfl⟩ := intsF_get0 e
    simp only [wp_ret, wp_stuck, wp_bnd, kb_ap, wp_lift, wo_some, wo_none, wo_ite, wo_map, wp_ite, ks_nx, ks_rt, ks_bk, ks_ct, wp_seq, wp_pk, kpk_v, kpk_ow, wp_rd, krd_v, krd_ow, wp_mv, kmv_v, kmv_ow, wp_cst, wp_use2, k2_ap, wp_op2, wp_use1, k1_ap, wp_op1, wp_useN, kN_ap, wp_opN, rsv_d, rsv_pk, ksv_v, ksv_ow, rsvs_nil, rsvs_cons, kcons_ap, wp_osN, wp_osC, wp_lsN, wp_lsC, wp_fsN, wp_fsC, wp_opd, wp_frz, wp_tupM, wp_lstM, wp_tst, ktst_bl, wp_notB, wp_andB, wp_orB, wp_andV, wp_orV, wp_notV, wp_ifE, wp_drop, wp_retM, wp_retN, fr_v, fr_un, fr_ow, pl_v, pl_un, fr_pl, frO_ap, plO_ap, slot_f, slot_t, wp_put, wp_setM, wp_parM, puts_nil, puts_cons, kt_ap, wt_N, wts_nil, wts_cons, wt_T, wp_setT, wp_tg, wp_appU, kap_ap, isL_ap, kapp_ap, wp_appE, wp_setP, kset_ap, wp_setIx, wp_setQ, wp_useF, kcall_ap, kpb_ap, kpe_ap, wp_callM, kargs_ap, argsOf_nil, argsOf_cons, argOf_d, argOf_pk, karg_v, karg_ow, pks_nil, pks_d, pks_pk, kpks_ow, kpks_v, nodupN_nil, nodupN_one, nodupN_cons, pb_nil, pb_d, pb_dU, pb_pk, kpbk_ap, kr_rt, kr_nx, kre_ap, wp_runB, back_nil, back_v, back_ow, wp_forM, wp_srcV, wp_srcA, kfor_nx, kfor_ct, kfor_bk, kfor_rt, wp_forGo_nil, wb_nil, npO_ap, wb_cons, wp_lcM, klc_ap, wp_lcB, kel_ap, kco_t, kco_f, kco_d, List.getElem?_cons_zero, List.getElem?_cons_succ, List.set_cons_zero, List.set_cons_succ, List.length_cons, List.length_nil, List.length_append, List.replicate_succ, List.replicate_zero, List.cons_append, List.nil_append, if_true, if_false, ite_true, ite_false, Bool.false_eq_true, true_and, and_true, decide_eq_true_eq, Bool.not_true, Bool.not_false, Bool.not_eq_true', decide_eq_false_iff_not, reduceIte, reduceCtorEq, Nat.zero_add, Nat.reduceAdd, Nat.reduceSub, List.contains_nil, List.contains_cons, Bool.and_true, Bool.or_false, Bool.and_self, beq_self_eq_true, Nat.reduceBEq, Nat.reduceEqDiff, Nat.succ_eq_add_one, rst, List.getD_cons_zero, List.getD_cons_succ, isF, lenF, listF, tupleF, o_int, o_inti, o_addl, o_addt, o_mulb, absF, minF, maxF, sumF, seqOf, eq_self, decide_true, decide_false, not_true_eq_false, not_false_eq_true, Bool.or_true, Bool.true_or, Bool.false_or, Bool.true_and, Bool.false_and, Bool.and_false, Option.map_some, Option.map_none, bne_f, bne_t, dec_not, fr_pl, nums_int, List.length_map, o_lt, o_le, o_gt, o_ge, o_add, o_sub, o_mul, o_div, o_mod, o_pow, o_rng1, o_rng2, at_0, at_1, at_2, at_3, at_4, at_5, at_nat, ix_0, ix_1, ix_2, ix_3, idx_l, idx_t, o_eq, o_eqb, small_nil, small_c1, small_c2, small_c3, small_c4, small_c5, small_c6, o_isi, ty_int_non, ty_int_bl, ty_int_int, ty_int_str, ty_int_tup, ty_int_lst, ty_int_dic, ty_int_set, ty_bool_non, ty_bool_bl, ty_bool_int, ty_bool_str, ty_bool_tup, ty_bool_lst, ty_bool_dic, ty_bool_set, ty_str_non, ty_str_bl, ty_str_int, ty_str_str, ty_str_tup, ty_str_lst, ty_str_dic, ty_str_set, ty_tuple_non, ty_tuple_bl, ty_tuple_int, ty_tuple_str, ty_tuple_tup, ty_tuple_lst, ty_tuple_dic, ty_tuple_set, ty_list_non, ty_list_bl, ty_list_int, ty_list_str, ty_list_tup, ty_list_lst, ty_list_dic, ty_list_set, ty_dict_non, ty_dict_bl, ty_dict_int, ty_dict_str, ty_dict_tup, ty_dict_lst, ty_dict_dic, ty_dict_set, ty_set_non, ty_set_bl, ty_set_int, ty_set_str, ty_set_tup, ty_set_lst, ty_set_dic, ty_set_set, hx, natD]
    refine ⟨mulOk_nat (fct_le i (by omega)) (by omega) (sm1500 (by omega : i + 1 ≤ 1000000)), _, rfl, rfl⟩
  obtain ⟨x4, rfl, hx4⟩ := h
  rw [intsF_len, Int.toNat_natCast]
  simp only [wp_ret, wp_stuck, wp_bnd, kb_ap, wp_lift, wo_some, wo_none, wo_ite, wo_map, wp_ite, ks_nx, ks_rt, ks_bk, ks_ct, wp_seq, wp_pk, kpk_v, kpk_ow, wp_rd, krd_v, krd_ow, wp_mv, kmv_v, kmv_ow, wp_cst, wp_use2, k2_ap, wp_op2, wp_use1, k1_ap, wp_op1, wp_useN, kN_ap, wp_opN, rsv_d, rsv_pk, ksv_v, ksv_ow, rsvs_nil, rsvs_cons, kcons_ap, wp_osN, wp_osC, wp_lsN, wp_lsC, wp_fsN, wp_fsC, wp_opd, wp_frz, wp_tupM, wp_lstM, wp_tst, ktst_bl, wp_notB, wp_andB, wp_orB, wp_andV, wp_orV, wp_notV, wp_ifE, wp_drop, wp_retM, wp_retN, fr_v, fr_un, fr_ow, pl_v, pl_un, fr_pl, frO_ap, plO_ap, slot_f, slot_t, wp_put, wp_setM, wp_parM, puts_nil, puts_cons, kt_ap, wt_N, wts_nil, wts_cons, wt_T, wp_setT, wp_tg, wp_appU, kap_ap, isL_ap, kapp_ap, wp_appE, wp_setP, kset_ap, wp_setIx, wp_setQ, wp_useF, kcall_ap, kpb_ap, kpe_ap, wp_callM, kargs_ap, argsOf_nil, argsOf_cons, argOf_d, argOf_pk, karg_v, karg_ow, pks_nil, pks_d, pks_pk, kpks_ow, kpks_v, nodupN_nil, nodupN_one, nodupN_cons, pb_nil, pb_d, pb_dU, pb_pk, kpbk_ap, kr_rt, kr_nx, kre_ap, wp_runB, back_nil, back_v, back_ow, wp_forM, wp_srcV, wp_srcA, kfor_nx, kfor_ct, kfor_bk, kfor_rt, wp_forGo_nil, wb_nil, npO_ap, wb_cons, wp_lcM, klc_ap, wp_lcB, kel_ap, kco_t, kco_f, kco_d, List.getElem?_cons_zero, List.getElem?_cons_succ, List.set_cons_zero, List.set_cons_succ, List.length_cons, List.length_nil, List.length_append, List.replicate_succ, List.replicate_zero, List.cons_append, List.nil_append, if_true, if_false, ite_true, ite_false, Bool.false_eq_true, true_and, and_true, decide_eq_true_eq, Bool.not_true, Bool.not_false, Bool.not_eq_true', decide_eq_false_iff_not, reduceIte, reduceCtorEq, Nat.zero_add, Nat.reduceAdd, Nat.reduceSub, List.contains_nil, List.contains_cons, Bool.and_true, Bool.or_false, Bool.and_self, beq_self_eq_true, Nat.reduceBEq, Nat.reduceEqDiff, Nat.succ_eq_add_one, rst, List.getD_cons_zero, List.getD_cons_succ, isF, lenF, listF, tupleF, o_int, o_inti, o_addl, o_addt, o_mulb, absF, minF, maxF, sumF, seqOf, eq_self, decide_true, decide_false, not_true_eq_false, not_false_eq_true, Bool.or_true, Bool.true_or, Bool.false_or, Bool.true_and, Bool.false_and, Bool.and_false, Option.map_some, Option.map_none, bne_f, bne_t, dec_not, fr_pl, nums_int, List.length_map, o_lt, o_le, o_gt, o_ge, o_add, o_sub, o_mul, o_div, o_mod, o_pow, o_rng1, o_rng2, at_0, at_1, at_2, at_3, at_4, at_5, at_nat, ix_0, ix_1, ix_2, ix_3, idx_l, idx_t, o_eq, o_eqb, small_nil, small_c1, small_c2, small_c3, small_c4, small_c5, small_c6, o_isi, ty_int_non, ty_int_bl, ty_int_int, ty_int_str, ty_int_tup, ty_int_lst, ty_int_dic, ty_int_set, ty_bool_non, ty_bool_bl, ty_bool_int, ty_bool_str, ty_bool_tup, ty_bool_lst, ty_bool_dic, ty_bool_set, ty_str_non, ty_str_bl, ty_str_int, ty_str_str, ty_str_tup, ty_str_lst, ty_str_dic, ty_str_set, ty_tuple_non, ty_tuple_bl, ty_tuple_int, ty_tuple_str, ty_tuple_tup, ty_tuple_lst, ty_tuple_dic, ty_tuple_set, ty_list_non, ty_list_bl, ty_list_int, ty_list_str, ty_list_tup, ty_list_lst, ty_list_dic, ty_list_set, ty_dict_non, ty_dict_bl, ty_dict_int, ty_dict_str, ty_dict_tup, ty_dict_lst, ty_dict_dic, ty_dict_set, ty_set_non, ty_set_bl, ty_set_int, ty_set_str, ty_set_tup, ty_set_lst, ty_set_dic, ty_set_set]
  refine wp_factorial (by omega) ?_
  simp only [wp_ret, wp_stuck, wp_bnd, kb_ap, wp_lift, wo_some, wo_none, wo_ite, wo_map, wp_ite, ks_nx, ks_rt, ks_bk, ks_ct, wp_seq, wp_pk, kpk_v, kpk_ow, wp_rd, krd_v, krd_ow, wp_mv, kmv_v, kmv_ow, wp_cst, wp_use2, k2_ap, wp_op2, wp_use1, k1_ap, wp_op1, wp_useN, kN_ap, wp_opN, rsv_d, rsv_pk, ksv_v, ksv_ow, rsvs_nil, rsvs_cons, kcons_ap, wp_osN, wp_osC, wp_lsN, wp_lsC, wp_fsN, wp_fsC, wp_opd, wp_frz, wp_tupM, wp_lstM, wp_tst, ktst_bl, wp_notB, wp_andB, wp_orB, wp_andV, wp_orV, wp_notV, wp_ifE, wp_drop, wp_retM, wp_retN, fr_v, fr_un, fr_ow, pl_v, pl_un, fr_pl, frO_ap, plO_ap, slot_f, slot_t, wp_put, wp_setM, wp_parM, puts_nil, puts_cons, kt_ap, wt_N, wts_nil, wts_cons, wt_T, wp_setT, wp_tg, wp_appU, kap_ap, isL_ap, kapp_ap, wp_appE, wp_setP, kset_ap, wp_setIx, wp_setQ, wp_useF, kcall_ap, kpb_ap, kpe_ap, wp_callM, kargs_ap, argsOf_nil, argsOf_cons, argOf_d, argOf_pk, karg_v, karg_ow, pks_nil, pks_d, pks_pk, kpks_ow, kpks_v, nodupN_nil, nodupN_one, nodupN_cons, pb_nil, pb_d, pb_dU, pb_pk, kpbk_ap, kr_rt, kr_nx, kre_ap, wp_runB, back_nil, back_v, back_ow, wp_forM, wp_srcV, wp_srcA, kfor_nx, kfor_ct, kfor_bk, kfor_rt, wp_forGo_nil, wb_nil, npO_ap, wb_cons, wp_lcM, klc_ap, wp_lcB, kel_ap, kco_t, kco_f, kco_d, List.getElem?_cons_zero, List.getElem?_cons_succ, List.set_cons_zero, List.set_cons_succ, List.length_cons, List.length_nil, List.length_append, List.replicate_succ, List.replicate_zero, List.cons_append, List.nil_append, if_true, if_false, ite_true, ite_false, Bool.false_eq_true, true_and, and_true, decide_eq_true_eq, Bool.not_true, Bool.not_false, Bool.not_eq_true', decide_eq_false_iff_not, reduceIte, reduceCtorEq, Nat.zero_add, Nat.reduceAdd, Nat.reduceSub, List.contains_nil, List.contains_cons, Bool.and_true, Bool.or_false, Bool.and_self, beq_self_eq_true, Nat.reduceBEq, Nat.reduceEqDiff, Nat.succ_eq_add_one, rst, List.getD_cons_zero, List.getD_cons_succ, isF, lenF, listF, tupleF, o_int, o_inti, o_addl, o_addt, o_mulb, absF, minF, maxF, sumF, seqOf, eq_self, decide_true, decide_false, not_true_eq_false, not_false_eq_true, Bool.or_true, Bool.true_or, Bool.false_or, Bool.true_and, Bool.false_and, Bool.and_false, Option.map_some, Option.map_none, bne_f, bne_t, dec_not, fr_pl, nums_int, List.length_map, o_lt, o_le, o_gt, o_ge, o_add, o_sub, o_mul, o_div, o_mod, o_pow, o_rng1, o_rng2, at_0, at_1, at_2, at_3, at_4, at_5, at_nat, ix_0, ix_1, ix_2, ix_3, idx_l, idx_t, o_eq, o_eqb, small_nil, small_c1, small_c2, small_c3, small_c4, small_c5, small_c6, o_isi, ty_int_non, ty_int_bl, ty_int_int, ty_int_str, ty_int_tup, ty_int_lst, ty_int_dic, ty_int_set, ty_bool_non, ty_bool_bl, ty_bool_int, ty_bool_str, ty_bool_tup, ty_bool_lst, ty_bool_dic, ty_bool_set, ty_str_non, ty_str_bl, ty_str_int, ty_str_str, ty_str_tup, ty_str_lst, ty_str_dic, ty_str_set, ty_tuple_non, ty_tuple_bl, ty_tuple_int, ty_tuple_str, ty_tuple_tup, ty_tuple_lst, ty_tuple_dic, ty_tuple_set, ty_list_non, ty_list_bl, ty_list_int, ty_list_str, ty_list_tup, ty_list_lst, ty_list_dic, ty_list_set, ty_dict_non, ty_dict_bl, ty_dict_int, ty_dict_str, ty_dict_tup, ty_dict_lst, ty_dict_dic, ty_dict_set, ty_set_non, ty_set_bl, ty_set_int, ty_set_str, ty_set_tup, ty_set_lst, ty_set_dic, ty_set_set]
  refine wp_sameI rfl plain_int ?_
  simp only [wp_ret, wp_stuck, wp_bnd, kb_ap, wp_lift, wo_some, wo_none, wo_ite, wo_map, wp_ite, ks_nx, ks_rt, ks_bk, ks_ct, wp_seq, wp_pk, kpk_v, kpk_ow, wp_rd, krd_v, krd_ow, wp_mv, kmv_v, kmv_ow, wp_cst, wp_use2, k2_ap, wp_op2, wp_use1, k1_ap, wp_op1, wp_useN, kN_ap, wp_opN, rsv_d, rsv_pk, ksv_v, ksv_ow, rsvs_nil, rsvs_cons, kcons_ap, wp_osN, wp_osC, wp_lsN, wp_lsC, wp_fsN, wp_fsC, wp_opd, wp_frz, wp_tupM, wp_lstM, wp_tst, ktst_bl, wp_notB, wp_andB, wp_orB, wp_andV, wp_orV, wp_notV, wp_ifE, wp_drop, wp_retM, wp_retN, fr_v, fr_un, fr_ow, pl_v, pl_un, fr_pl, frO_ap, plO_ap, slot_f, slot_t, wp_put, wp_setM, wp_parM, puts_nil, puts_cons, kt_ap, wt_N, wts_nil, wts_cons, wt_T, wp_setT, wp_tg, wp_appU, kap_ap, isL_ap, kapp_ap, wp_appE, wp_setP, kset_ap, wp_setIx, wp_setQ, wp_useF, kcall_ap, kpb_ap, kpe_ap, wp_callM, kargs_ap, argsOf_nil, argsOf_cons, argOf_d, argOf_pk, karg_v, karg_ow, pks_nil, pks_d, pks_pk, kpks_ow, kpks_v, nodupN_nil, nodupN_one, nodupN_cons, pb_nil, pb_d, pb_dU, pb_pk, kpbk_ap, kr_rt, kr_nx, kre_ap, wp_runB, back_nil, back_v, back_ow, wp_forM, wp_srcV, wp_srcA, kfor_nx, kfor_ct, kfor_bk, kfor_rt, wp_forGo_nil, wb_nil, npO_ap, wb_cons, wp_lcM, klc_ap, wp_lcB, kel_ap, kco_t, kco_f, kco_d, List.getElem?_cons_zero, List.getElem?_cons_succ, List.set_cons_zero, List.set_cons_succ, List.length_cons, List.length_nil, List.length_append, List.replicate_succ, List.replicate_zero, List.cons_append, List.nil_append, if_true, if_false, ite_true, ite_false, Bool.false_eq_true, true_and, and_true, decide_eq_true_eq, Bool.not_true, Bool.not_false, Bool.not_eq_true', decide_eq_false_iff_not, reduceIte, reduceCtorEq, Nat.zero_add, Nat.reduceAdd, Nat.reduceSub, List.contains_nil, List.contains_cons, Bool.and_true, Bool.or_false, Bool.and_self, beq_self_eq_true, Nat.reduceBEq, Nat.reduceEqDiff, Nat.succ_eq_add_one, rst, List.getD_cons_zero, List.getD_cons_succ, isF, lenF, listF, tupleF, o_int, o_inti, o_addl, o_addt, o_mulb, absF, minF, maxF, sumF, seqOf, eq_self, decide_true, decide_false, not_true_eq_false, not_false_eq_true, Bool.or_true, Bool.true_or, Bool.false_or, Bool.true_and, Bool.false_and, Bool.and_false, Option.map_some, Option.map_none, bne_f, bne_t, dec_not, fr_pl, nums_int, List.length_map, o_lt, o_le, o_gt, o_ge, o_add, o_sub, o_mul, o_div, o_mod, o_pow, o_rng1, o_rng2, at_0, at_1, at_2, at_3, at_4, at_5, at_nat, ix_0, ix_1, ix_2, ix_3, idx_l, idx_t, o_eq, o_eqb, small_nil, small_c1, small_c2, small_c3, small_c4, small_c5, small_c6, o_isi, ty_int_non, ty_int_bl, ty_int_int, ty_int_str, ty_int_tup, ty_int_lst, ty_int_dic, ty_int_set, ty_bool_non, ty_bool_bl, ty_bool_int, ty_bool_str, ty_bool_tup, ty_bool_lst, ty_bool_dic, ty_bool_set, ty_str_non, ty_str_bl, ty_str_int, ty_str_str, ty_str_tup, ty_str_lst, ty_str_dic, ty_str_set, ty_tuple_non, ty_tuple_bl, ty_tuple_int, ty_tuple_str, ty_tuple_tup, ty_tuple_lst, ty_tuple_dic, ty_tuple_set, ty_list_non, ty_list_bl, ty_list_int, ty_list_str, ty_list_tup, ty_list_lst, ty_list_dic, ty_list_set, ty_dict_non, ty_dict_bl, ty_dict_int, ty_dict_str, ty_dict_tup, ty_dict_lst, ty_dict_dic, ty_dict_set, ty_set_non, ty_set_bl, ty_set_int, ty_set_str, ty_set_tup, ty_set_lst, ty_set_dic, ty_set_set]
  rw [show (n : Int) + 1 = ((n + 1 : Nat) : Int) from rfl]
  refine wp_factorial (by omega) ?_
  simp only [wp_ret, wp_stuck, wp_bnd, kb_ap, wp_lift, wo_some, wo_none, wo_ite, wo_map, wp_ite, ks_nx, ks_rt, ks_bk, ks_ct, wp_seq, wp_pk, kpk_v, kpk_ow, wp_rd, krd_v, krd_ow, wp_mv, kmv_v, kmv_ow, wp_cst, wp_use2, k2_ap, wp_op2, wp_use1, k1_ap, wp_op1, wp_useN, kN_ap, wp_opN, rsv_d, rsv_pk, ksv_v, ksv_ow, rsvs_nil, rsvs_cons, kcons_ap, wp_osN, wp_osC, wp_lsN, wp_lsC, wp_fsN, wp_fsC, wp_opd, wp_frz, wp_tupM, wp_lstM, wp_tst, ktst_bl, wp_notB, wp_andB, wp_orB, wp_andV, wp_orV, wp_notV, wp_ifE, wp_drop, wp_retM, wp_retN, fr_v, fr_un, fr_ow, pl_v, pl_un, fr_pl, frO_ap, plO_ap, slot_f, slot_t, wp_put, wp_setM, wp_parM, puts_nil, puts_cons, kt_ap, wt_N, wts_nil, wts_cons, wt_T, wp_setT, wp_tg, wp_appU, kap_ap, isL_ap, kapp_ap, wp_appE, wp_setP, kset_ap, wp_setIx, wp_setQ, wp_useF, kcall_ap, kpb_ap, kpe_ap, wp_callM, kargs_ap, argsOf_nil, argsOf_cons, argOf_d, argOf_pk, karg_v, karg_ow, pks_nil, pks_d, pks_pk, kpks_ow, kpks_v, nodupN_nil, nodupN_one, nodupN_cons, pb_nil, pb_d, pb_dU, pb_pk, kpbk_ap, kr_rt, kr_nx, kre_ap, wp_runB, back_nil, back_v, back_ow, wp_forM, wp_srcV, wp_srcA, kfor_nx, kfor_ct, kfor_bk, kfor_rt, wp_forGo_nil, wb_nil, npO_ap, wb_cons, wp_lcM, klc_ap, wp_lcB, kel_ap, kco_t, kco_f, kco_d, List.getElem?_cons_zero, List.getElem?_cons_succ, List.set_cons_zero, List.set_cons_succ, List.length_cons, List.length_nil, List.length_append, List.replicate_succ, List.replicate_zero, List.cons_append, List.nil_append, if_true, if_false, ite_true, ite_false, Bool.false_eq_true, true_and, and_true, decide_eq_true_eq, Bool.not_true, Bool.not_false, Bool.not_eq_true', decide_eq_false_iff_not, reduceIte, reduceCtorEq, Nat.zero_add, Nat.reduceAdd, Nat.reduceSub, List.contains_nil, List.contains_cons, Bool.and_true, Bool.or_false, Bool.and_self, beq_self_eq_true, Nat.reduceBEq, Nat.reduceEqDiff, Nat.succ_eq_add_one, rst, List.getD_cons_zero, List.getD_cons_succ, isF, lenF, listF, tupleF, o_int, o_inti, o_addl, o_addt, o_mulb, absF, minF, maxF, sumF, seqOf, eq_self, decide_true, decide_false, not_true_eq_false, not_false_eq_true, Bool.or_true, Bool.true_or, Bool.false_or, Bool.true_and, Bool.false_and, Bool.and_false, Option.map_some, Option.map_none, bne_f, bne_t, dec_not, fr_pl, nums_int, List.length_map, o_lt, o_le, o_gt, o_ge, o_add, o_sub, o_mul, o_div, o_mod, o_pow, o_rng1, o_rng2, at_0, at_1, at_2, at_3, at_4, at_5, at_nat, ix_0, ix_1, ix_2, ix_3, idx_l, idx_t, o_eq, o_eqb, small_nil, small_c1, small_c2, small_c3, small_c4, small_c5, small_c6, o_isi, ty_int_non, ty_int_bl, ty_int_int, ty_int_str, ty_int_tup, ty_int_lst, ty_int_dic, ty_int_set, ty_bool_non, ty_bool_bl, ty_bool_int, ty_bool_str, ty_bool_tup, ty_bool_lst, ty_bool_dic, ty_bool_set, ty_str_non, ty_str_bl, ty_str_int, ty_str_str, ty_str_tup, ty_str_lst, ty_str_dic, ty_str_set, ty_tuple_non, ty_tuple_bl, ty_tuple_int, ty_tuple_str, ty_tuple_tup, ty_tuple_lst, ty_tuple_dic, ty_tuple_set, ty_list_non, ty_list_bl, ty_list_int, ty_list_str, ty_list_tup, ty_list_lst, ty_list_dic, ty_list_set, ty_dict_non, ty_dict_bl, ty_dict_int, ty_dict_str, ty_dict_tup, ty_dict_lst, ty_dict_dic, ty_dict_set, ty_set_non, ty_set_bl, ty_set_int, ty_set_str, ty_set_tup, ty_set_lst, ty_set_dic, ty_set_set, natD]
  refine ⟨mulOk_nat (fct_le n (by omega)) (by omega) (sm1500 (by omega : n + 1 ≤ 1000000)), ?_⟩
  refine wp_sameI rfl plain_int ?_
  simp only [wp_ret, wp_stuck, wp_bnd, kb_ap, wp_lift, wo_some, wo_none, wo_ite, wo_map, wp_ite, ks_nx, ks_rt, ks_bk, ks_ct, wp_seq, wp_pk, kpk_v, kpk_ow, wp_rd, krd_v, krd_ow, wp_mv, kmv_v, kmv_ow, wp_cst, wp_use2, k2_ap, wp_op2, wp_use1, k1_ap, wp_op1, wp_useN, kN_ap, wp_opN, rsv_d, rsv_pk, ksv_v, ksv_ow, rsvs_nil, rsvs_cons, kcons_ap, wp_osN, wp_osC, wp_lsN, wp_lsC, wp_fsN, wp_fsC, wp_opd, wp_frz, wp_tupM, wp_lstM, wp_tst, ktst_bl, wp_notB, wp_andB, wp_orB, wp_andV, wp_orV, wp_notV, wp_ifE, wp_drop, wp_retM, wp_retN, fr_v, fr_un, fr_ow, pl_v, pl_un, fr_pl, frO_ap, plO_ap, slot_f, slot_t, wp_put, wp_setM, wp_parM, puts_nil, puts_cons, kt_ap, wt_N, wts_nil, wts_cons, wt_T, wp_setT, wp_tg, wp_appU, kap_ap, isL_ap, kapp_ap, wp_appE, wp_setP, kset_ap, wp_setIx, wp_setQ, wp_useF, kcall_ap, kpb_ap, kpe_ap, wp_callM, kargs_ap, argsOf_nil, argsOf_cons, argOf_d, argOf_pk, karg_v, karg_ow, pks_nil, pks_d, pks_pk, kpks_ow, kpks_v, nodupN_nil, nodupN_one, nodupN_cons, pb_nil, pb_d, pb_dU, pb_pk, kpbk_ap, kr_rt, kr_nx, kre_ap, wp_runB, back_nil, back_v, back_ow, wp_forM, wp_srcV, wp_srcA, kfor_nx, kfor_ct, kfor_bk, kfor_rt, wp_forGo_nil, wb_nil, npO_ap, wb_cons, wp_lcM, klc_ap, wp_lcB, kel_ap, kco_t, kco_f, kco_d, List.getElem?_cons_zero, List.getElem?_cons_succ, List.set_cons_zero, List.set_cons_succ, List.length_cons, List.length_nil, List.length_append, List.replicate_succ, List.replicate_zero, List.cons_append, List.nil_append, if_true, if_false, ite_true, ite_false, Bool.false_eq_true, true_and, and_true, decide_eq_true_eq, Bool.not_true, Bool.not_false, Bool.not_eq_true', decide_eq_false_iff_not, reduceIte, reduceCtorEq, Nat.zero_add, Nat.reduceAdd, Nat.reduceSub, List.contains_nil, List.contains_cons, Bool.and_true, Bool.or_false, Bool.and_self, beq_self_eq_true, Nat.reduceBEq, Nat.reduceEqDiff, Nat.succ_eq_add_one, rst, List.getD_cons_zero, List.getD_cons_succ, isF, lenF, listF, tupleF, o_int, o_inti, o_addl, o_addt, o_mulb, absF, minF, maxF, sumF, seqOf, eq_self, decide_true, decide_false, not_true_eq_false, not_false_eq_true, Bool.or_true, Bool.true_or, Bool.false_or, Bool.true_and, Bool.false_and, Bool.and_false, Option.map_some, Option.map_none, bne_f, bne_t, dec_not, fr_pl, nums_int, List.length_map, o_lt, o_le, o_gt, o_ge, o_add, o_sub, o_mul, o_div, o_mod, o_pow, o_rng1, o_rng2, at_0, at_1, at_2, at_3, at_4, at_5, at_nat, ix_0, ix_1, ix_2, ix_3, idx_l, idx_t, o_eq, o_eqb, small_nil, small_c1, small_c2, small_c3, small_c4, small_c5, small_c6, o_isi, ty_int_non, ty_int_bl, ty_int_int, ty_int_str, ty_int_tup, ty_int_lst, ty_int_dic, ty_int_set, ty_bool_non, ty_bool_bl, ty_bool_int, ty_bool_str, ty_bool_tup, ty_bool_lst, ty_bool_dic, ty_bool_set, ty_str_non, ty_str_bl, ty_str_int, ty_str_str, ty_str_tup, ty_str_lst, ty_str_dic, ty_str_set, ty_tuple_non, ty_tuple_bl, ty_tuple_int, ty_tuple_str, ty_tuple_tup, ty_tuple_lst, ty_tuple_dic, ty_tuple_set, ty_list_non, ty_list_bl, ty_list_int, ty_list_str, ty_list_tup, ty_list_lst, ty_list_dic, ty_list_set, ty_dict_non, ty_dict_bl, ty_dict_int, ty_dict_str, ty_dict_tup, ty_dict_lst, ty_dict_dic, ty_dict_set, ty_set_non, ty_set_bl, ty_set_int, ty_set_str, ty_set_tup, ty_set_lst, ty_set_dic, ty_set_set]
  refine ⟨inB_of (by omega) (by omega), ?_⟩
  refine wp_for (fun i st => ∃ x3 x4 x6, st = [.v (.lst (ns.map .int)), .ow false (C.boxD b), .v (.int (n : Int)), x3, x4, .ow false (.lst ((rowN i).map natD)), x6, .un, .un, .un, .un, .un, .un, .un, .un, .un, .un, .un, .un, .un, .un, .un, .un, .un, .un] ∧ pl x3 = true ∧ pl x4 = true ∧ pl x6 = true) ⟨_, _, _, rfl, rfl, hx4, rfl⟩ (fun i d st e h => ?_) fun st h => ?_
  · obtain ⟨x3, x4, x6, rfl, hx3, hx4, hx6⟩ := h
    obtain ⟨hi, rfl⟩ := intsF_get0 e
    have rl := rowN_len i
    simp only [wp_ret, wp_stuck, wp_bnd, kb_ap, wp_lift, wo_some, wo_none, wo_ite, wo_map, wp_ite, ks_nx, ks_rt, ks_bk, ks_ct, wp_seq, wp_pk, kpk_v, kpk_ow, wp_rd, krd_v, krd_ow, wp_mv, kmv_v, kmv_ow, wp_cst, wp_use2, k2_ap, wp_op2, wp_use1, k1_ap, wp_op1, wp_useN, kN_ap, wp_opN, rsv_d, rsv_pk, ksv_v, ksv_ow, rsvs_nil, rsvs_cons, kcons_ap, wp_osN, wp_osC, wp_lsN, wp_lsC, wp_fsN, wp_fsC, wp_opd, wp_frz, wp_tupM, wp_lstM, wp_tst, ktst_bl, wp_notB, wp_andB, wp_orB, wp_andV, wp_orV, wp_notV, wp_ifE, wp_drop, wp_retM, wp_retN, fr_v, fr_un, fr_ow, pl_v, pl_un, fr_pl, frO_ap, plO_ap, slot_f, slot_t, wp_put, wp_setM, wp_parM, puts_nil, puts_cons, kt_ap, wt_N, wts_nil, wts_cons, wt_T, wp_setT, wp_tg, wp_appU, kap_ap, isL_ap, kapp_ap, wp_appE, wp_setP, kset_ap, wp_setIx, wp_setQ, wp_useF, kcall_ap, kpb_ap, kpe_ap, wp_callM, kargs_ap, argsOf_nil, argsOf_cons, argOf_d, argOf_pk, karg_v, karg_ow, pks_nil, pks_d, pks_pk, kpks_ow, kpks_v, nodupN_nil, nodupN_one, nodupN_cons, pb_nil, pb_d, pb_dU, pb_pk, kpbk_ap, kr_rt, kr_nx, kre_ap, wp_runB, back_nil, back_v, back_ow, wp_forM, wp_srcV, wp_srcA, kfor_nx, kfor_ct, kfor_bk, kfor_rt, wp_forGo_nil, wb_nil, npO_ap, wb_cons, wp_lcM, klc_ap, wp_lcB, kel_ap, kco_t, kco_f, kco_d, List.getElem?_cons_zero, List.getElem?_cons_succ, List.set_cons_zero, List.set_cons_succ, List.length_cons, List.length_nil, List.length_append, List.replicate_succ, List.replicate_zero, List.cons_append, List.nil_append, if_true, if_false, ite_true, ite_false, Bool.false_eq_true, true_and, and_true, decide_eq_true_eq, Bool.not_true, Bool.not_false, Bool.not_eq_true', decide_eq_false_iff_not, reduceIte, reduceCtorEq, Nat.zero_add, Nat.reduceAdd, Nat.reduceSub, List.contains_nil, List.contains_cons, Bool.and_true, Bool.or_false, Bool.and_self, beq_self_eq_true, Nat.reduceBEq, Nat.reduceEqDiff, Nat.succ_eq_add_one, rst, List.getD_cons_zero, List.getD_cons_succ, isF, lenF, listF, tupleF, o_int, o_inti, o_addl, o_addt, o_mulb, absF, minF, maxF, sumF, seqOf, eq_self, decide_true, decide_false, not_true_eq_false, not_false_eq_true, Bool.or_true, Bool.true_or, Bool.false_or, Bool.true_and, Bool.false_and, Bool.and_false, Option.map_some, Option.map_none, bne_f, bne_t, dec_not, fr_pl, nums_int, List.length_map, o_lt, o_le, o_gt, o_ge, o_add, o_sub, o_mul, o_div, o_mod, o_pow, o_rng1, o_rng2, at_0, at_1, at_2, at_3, at_4, at_5, at_nat, ix_0, ix_1, ix_2, ix_3, idx_l, idx_t, o_eq, o_eqb, small_nil, small_c1, small_c2, small_c3, small_c4, small_c5, small_c6, o_isi, ty_int_non, ty_int_bl, ty_int_int, ty_int_str, ty_int_tup, ty_int_lst, ty_int_dic, ty_int_set, ty_bool_non, ty_bool_bl, ty_bool_int, ty_bool_str, ty_bool_tup, ty_bool_lst, ty_bool_dic, ty_bool_set, ty_str_non, ty_str_bl, ty_str_int, ty_str_str, ty_str_tup, ty_str_lst, ty_str_dic, ty_str_set, ty_tuple_non, ty_tuple_bl, ty_tuple_int, ty_tuple_str, ty_tuple_tup, ty_tuple_lst, ty_tuple_dic, ty_tuple_set, ty_list_non, ty_list_bl, ty_list_int, ty_list_str, ty_list_tup, ty_list_lst, ty_list_dic, ty_list_set, ty_dict_non, ty_dict_bl, ty_dict_int, ty_dict_str, ty_dict_tup, ty_dict_lst, ty_dict_dic, ty_dict_set, ty_set_non, ty_set_bl, ty_set_int, ty_set_str, ty_set_tup, ty_set_lst, ty_set_dic, ty_set_set, hx3, hx4, hx6]
    refine ⟨sz (by omega), sz (by omega), ?_⟩
    simp only [C.zip_l]
    have e1 : (D.int 0 :: (rowN i).map natD) = (0 :: rowN i).map natD := rfl
    have e2 : (rowN i).map natD ++ [.int 0] = (rowN i ++ [0]).map natD := by rw [List.map_append]; rfl
    refine wp_lcS addD (fun d hd => ?_) ?_
    · rw [e1, e2] at hd
      obtain ⟨u, v, rfl⟩ := zip_nat hd
      simp only [wp_ret, wp_stuck, wp_bnd, kb_ap, wp_lift, wo_some, wo_none, wo_ite, wo_map, wp_ite, ks_nx, ks_rt, ks_bk, ks_ct, wp_seq, wp_pk, kpk_v, kpk_ow, wp_rd, krd_v, krd_ow, wp_mv, kmv_v, kmv_ow, wp_cst, wp_use2, k2_ap, wp_op2, wp_use1, k1_ap, wp_op1, wp_useN, kN_ap, wp_opN, rsv_d, rsv_pk, ksv_v, ksv_ow, rsvs_nil, rsvs_cons, kcons_ap, wp_osN, wp_osC, wp_lsN, wp_lsC, wp_fsN, wp_fsC, wp_opd, wp_frz, wp_tupM, wp_lstM, wp_tst, ktst_bl, wp_notB, wp_andB, wp_orB, wp_andV, wp_orV, wp_notV, wp_ifE, wp_drop, wp_retM, wp_retN, fr_v, fr_un, fr_ow, pl_v, pl_un, fr_pl, frO_ap, plO_ap, slot_f, slot_t, wp_put, wp_setM, wp_parM, puts_nil, puts_cons, kt_ap, wt_N, wts_nil, wts_cons, wt_T, wp_setT, wp_tg, wp_appU, kap_ap, isL_ap, kapp_ap, wp_appE, wp_setP, kset_ap, wp_setIx, wp_setQ, wp_useF, kcall_ap, kpb_ap, kpe_ap, wp_callM, kargs_ap, argsOf_nil, argsOf_cons, argOf_d, argOf_pk, karg_v, karg_ow, pks_nil, pks_d, pks_pk, kpks_ow, kpks_v, nodupN_nil, nodupN_one, nodupN_cons, pb_nil, pb_d, pb_dU, pb_pk, kpbk_ap, kr_rt, kr_nx, kre_ap, wp_runB, back_nil, back_v, back_ow, wp_forM, wp_srcV, wp_srcA, kfor_nx, kfor_ct, kfor_bk, kfor_rt, wp_forGo_nil, wb_nil, npO_ap, wb_cons, wp_lcM, klc_ap, wp_lcB, kel_ap, kco_t, kco_f, kco_d, List.getElem?_cons_zero, List.getElem?_cons_succ, List.set_cons_zero, List.set_cons_succ, List.length_cons, List.length_nil, List.length_append, List.replicate_succ, List.replicate_zero, List.cons_append, List.nil_append, if_true, if_false, ite_true, ite_false, Bool.false_eq_true, true_and, and_true, decide_eq_true_eq, Bool.not_true, Bool.not_false, Bool.not_eq_true', decide_eq_false_iff_not, reduceIte, reduceCtorEq, Nat.zero_add, Nat.reduceAdd, Nat.reduceSub, List.contains_nil, List.contains_cons, Bool.and_true, Bool.or_false, Bool.and_self, beq_self_eq_true, Nat.reduceBEq, Nat.reduceEqDiff, Nat.succ_eq_add_one, rst, List.getD_cons_zero, List.getD_cons_succ, isF, lenF, listF, tupleF, o_int, o_inti, o_addl, o_addt, o_mulb, absF, minF, maxF, sumF, seqOf, eq_self, decide_true, decide_false, not_true_eq_false, not_false_eq_true, Bool.or_true, Bool.true_or, Bool.false_or, Bool.true_and, Bool.false_and, Bool.and_false, Option.map_some, Option.map_none, bne_f, bne_t, dec_not, fr_pl, nums_int, List.length_map, o_lt, o_le, o_gt, o_ge, o_add, o_sub, o_mul, o_div, o_mod, o_pow, o_rng1, o_rng2, at_0, at_1, at_2, at_3, at_4, at_5, at_nat, ix_0, ix_1, ix_2, ix_3, idx_l, idx_t, o_eq, o_eqb, small_nil, small_c1, small_c2, small_c3, small_c4, small_c5, small_c6, o_isi, ty_int_non, ty_int_bl, ty_int_int, ty_int_str, ty_int_tup, ty_int_lst, ty_int_dic, ty_int_set, ty_bool_non, ty_bool_bl, ty_bool_int, ty_bool_str, ty_bool_tup, ty_bool_lst, ty_bool_dic, ty_bool_set, ty_str_non, ty_str_bl, ty_str_int, ty_str_str, ty_str_tup, ty_str_lst, ty_str_dic, ty_str_set, ty_tuple_non, ty_tuple_bl, ty_tuple_int, ty_tuple_str, ty_tuple_tup, ty_tuple_lst, ty_tuple_dic, ty_tuple_set, ty_list_non, ty_list_bl, ty_list_int, ty_list_str, ty_list_tup, ty_list_lst, ty_list_dic, ty_list_set, ty_dict_non, ty_dict_bl, ty_dict_int, ty_dict_str, ty_dict_tup, ty_dict_lst, ty_dict_dic, ty_dict_set, ty_set_non, ty_set_bl, ty_set_int, ty_set_str, ty_set_tup, ty_set_lst, ty_set_dic, ty_set_set, hx3, hx4, hx6, natD, addD]
    · rw [rowN_step]
      have rl := rowN_len (i + 1)
      simp only [wp_ret, wp_stuck, wp_bnd, kb_ap, wp_lift, wo_some, wo_none, wo_ite, wo_map, wp_ite, ks_nx, ks_rt, ks_bk, ks_ct, wp_seq, wp_pk, kpk_v, kpk_ow, wp_rd, krd_v, krd_ow, wp_mv, kmv_v, kmv_ow, wp_cst, wp_use2, k2_ap, wp_op2, wp_use1, k1_ap, wp_op1, wp_useN, kN_ap, wp_opN, rsv_d, rsv_pk, ksv_v, ksv_ow, rsvs_nil, rsvs_cons, kcons_ap, wp_osN, wp_osC, wp_lsN, wp_lsC, wp_fsN, wp_fsC, wp_opd, wp_frz, wp_tupM, wp_lstM, wp_tst, ktst_bl, wp_notB, wp_andB, wp_orB, wp_andV, wp_orV, wp_notV, wp_ifE, wp_drop, wp_retM, wp_retN, fr_v, fr_un, fr_ow, pl_v, pl_un, fr_pl, frO_ap, plO_ap, slot_f, slot_t, wp_put, wp_setM, wp_parM, puts_nil, puts_cons, kt_ap, wt_N, wts_nil, wts_cons, wt_T, wp_setT, wp_tg, wp_appU, kap_ap, isL_ap, kapp_ap, wp_appE, wp_setP, kset_ap, wp_setIx, wp_setQ, wp_useF, kcall_ap, kpb_ap, kpe_ap, wp_callM, kargs_ap, argsOf_nil, argsOf_cons, argOf_d, argOf_pk, karg_v, karg_ow, pks_nil, pks_d, pks_pk, kpks_ow, kpks_v, nodupN_nil, nodupN_one, nodupN_cons, pb_nil, pb_d, pb_dU, pb_pk, kpbk_ap, kr_rt, kr_nx, kre_ap, wp_runB, back_nil, back_v, back_ow, wp_forM, wp_srcV, wp_srcA, kfor_nx, kfor_ct, kfor_bk, kfor_rt, wp_forGo_nil, wb_nil, npO_ap, wb_cons, wp_lcM, klc_ap, wp_lcB, kel_ap, kco_t, kco_f, kco_d, List.getElem?_cons_zero, List.getElem?_cons_succ, List.set_cons_zero, List.set_cons_succ, List.length_cons, List.length_nil, List.length_append, List.replicate_succ, List.replicate_zero, List.cons_append, List.nil_append, if_true, if_false, ite_true, ite_false, Bool.false_eq_true, true_and, and_true, decide_eq_true_eq, Bool.not_true, Bool.not_false, Bool.not_eq_true', decide_eq_false_iff_not, reduceIte, reduceCtorEq, Nat.zero_add, Nat.reduceAdd, Nat.reduceSub, List.contains_nil, List.contains_cons, Bool.and_true, Bool.or_false, Bool.and_self, beq_self_eq_true, Nat.reduceBEq, Nat.reduceEqDiff, Nat.succ_eq_add_one, rst, List.getD_cons_zero, List.getD_cons_succ, isF, lenF, listF, tupleF, o_int, o_inti, o_addl, o_addt, o_mulb, absF, minF, maxF, sumF, seqOf, eq_self, decide_true, decide_false, not_true_eq_false, not_false_eq_true, Bool.or_true, Bool.true_or, Bool.false_or, Bool.true_and, Bool.false_and, Bool.and_false, Option.map_some, Option.map_none, bne_f, bne_t, dec_not, fr_pl, nums_int, List.length_map, o_lt, o_le, o_gt, o_ge, o_add, o_sub, o_mul, o_div, o_mod, o_pow, o_rng1, o_rng2, at_0, at_1, at_2, at_3, at_4, at_5, at_nat, ix_0, ix_1, ix_2, ix_3, idx_l, idx_t, o_eq, o_eqb, small_nil, small_c1, small_c2, small_c3, small_c4, small_c5, small_c6, o_isi, ty_int_non, ty_int_bl, ty_int_int, ty_int_str, ty_int_tup, ty_int_lst, ty_int_dic, ty_int_set, ty_bool_non, ty_bool_bl, ty_bool_int, ty_bool_str, ty_bool_tup, ty_bool_lst, ty_bool_dic, ty_bool_set, ty_str_non, ty_str_bl, ty_str_int, ty_str_str, ty_str_tup, ty_str_lst, ty_str_dic, ty_str_set, ty_tuple_non, ty_tuple_bl, ty_tuple_int, ty_tuple_str, ty_tuple_tup, ty_tuple_lst, ty_tuple_dic, ty_tuple_set, ty_list_non, ty_list_bl, ty_list_int, ty_list_str, ty_list_tup, ty_list_lst, ty_list_dic, ty_list_set, ty_dict_non, ty_dict_bl, ty_dict_int, ty_dict_str, ty_dict_tup, ty_dict_lst, ty_dict_dic, ty_dict_set, ty_set_non, ty_set_bl, ty_set_int, ty_set_str, ty_set_tup, ty_set_lst, ty_set_dic, ty_set_set, hx3, hx4, hx6]
      exact ⟨small_of (by rw [List.length_map]; omega), x3, x4, _, rfl, hx3, hx4, rfl⟩
  obtain ⟨x3, x4, x6, rfl, hx3, hx4, hx6⟩ := h
  rw [intsF_len, Int.toNat_natCast]
  simp only [wp_ret, wp_stuck, wp_bnd, kb_ap, wp_lift, wo_some, wo_none, wo_ite, wo_map, wp_ite, ks_nx, ks_rt, ks_bk, ks_ct, wp_seq, wp_pk, kpk_v, kpk_ow, wp_rd, krd_v, krd_ow, wp_mv, kmv_v, kmv_ow, wp_cst, wp_use2, k2_ap, wp_op2, wp_use1, k1_ap, wp_op1, wp_useN, kN_ap, wp_opN, rsv_d, rsv_pk, ksv_v, ksv_ow, rsvs_nil, rsvs_cons, kcons_ap, wp_osN, wp_osC, wp_lsN, wp_lsC, wp_fsN, wp_fsC, wp_opd, wp_frz, wp_tupM, wp_lstM, wp_tst, ktst_bl, wp_notB, wp_andB, wp_orB, wp_andV, wp_orV, wp_notV, wp_ifE, wp_drop, wp_retM, wp_retN, fr_v, fr_un, fr_ow, pl_v, pl_un, fr_pl, frO_ap, plO_ap, slot_f, slot_t, wp_put, wp_setM, wp_parM, puts_nil, puts_cons, kt_ap, wt_N, wts_nil, wts_cons, wt_T, wp_setT, wp_tg, wp_appU, kap_ap, isL_ap, kapp_ap, wp_appE, wp_setP, kset_ap, wp_setIx, wp_setQ, wp_useF, kcall_ap, kpb_ap, kpe_ap, wp_callM, kargs_ap, argsOf_nil, argsOf_cons, argOf_d, argOf_pk, karg_v, karg_ow, pks_nil, pks_d, pks_pk, kpks_ow, kpks_v, nodupN_nil, nodupN_one, nodupN_cons, pb_nil, pb_d, pb_dU, pb_pk, kpbk_ap, kr_rt, kr_nx, kre_ap, wp_runB, back_nil, back_v, back_ow, wp_forM, wp_srcV, wp_srcA, kfor_nx, kfor_ct, kfor_bk, kfor_rt, wp_forGo_nil, wb_nil, npO_ap, wb_cons, wp_lcM, klc_ap, wp_lcB, kel_ap, kco_t, kco_f, kco_d, List.getElem?_cons_zero, List.getElem?_cons_succ, List.set_cons_zero, List.set_cons_succ, List.length_cons, List.length_nil, List.length_append, List.replicate_succ, List.replicate_zero, List.cons_append, List.nil_append, if_true, if_false, ite_true, ite_false, Bool.false_eq_true, true_and, and_true, decide_eq_true_eq, Bool.not_true, Bool.not_false, Bool.not_eq_true', decide_eq_false_iff_not, reduceIte, reduceCtorEq, Nat.zero_add, Nat.reduceAdd, Nat.reduceSub, List.contains_nil, List.contains_cons, Bool.and_true, Bool.or_false, Bool.and_self, beq_self_eq_true, Nat.reduceBEq, Nat.reduceEqDiff, Nat.succ_eq_add_one, rst, List.getD_cons_zero, List.getD_cons_succ, isF, lenF, listF, tupleF, o_int, o_inti, o_addl, o_addt, o_mulb, absF, minF, maxF, sumF, seqOf, eq_self, decide_true, decide_false, not_true_eq_false, not_false_eq_true, Bool.or_true, Bool.true_or, Bool.false_or, Bool.true_and, Bool.false_and, Bool.and_false, Option.map_some, Option.map_none, bne_f, bne_t, dec_not, fr_pl, nums_int, List.length_map, o_lt, o_le, o_gt, o_ge, o_add, o_sub, o_mul, o_div, o_mod, o_pow, o_rng1, o_rng2, at_0, at_1, at_2, at_3, at_4, at_5, at_nat, ix_0, ix_1, ix_2, ix_3, idx_l, idx_t, o_eq, o_eqb, small_nil, small_c1, small_c2, small_c3, small_c4, small_c5, small_c6, o_isi, ty_int_non, ty_int_bl, ty_int_int, ty_int_str, ty_int_tup, ty_int_lst, ty_int_dic, ty_int_set, ty_bool_non, ty_bool_bl, ty_bool_int, ty_bool_str, ty_bool_tup, ty_bool_lst, ty_bool_dic, ty_bool_set, ty_str_non, ty_str_bl, ty_str_int, ty_str_str, ty_str_tup, ty_str_lst, ty_str_dic, ty_str_set, ty_tuple_non, ty_tuple_bl, ty_tuple_int, ty_tuple_str, ty_tuple_tup, ty_tuple_lst, ty_tuple_dic, ty_tuple_set, ty_list_non, ty_list_bl, ty_list_int, ty_list_str, ty_list_tup, ty_list_lst, ty_list_dic, ty_list_set, ty_dict_non, ty_dict_bl, ty_dict_int, ty_dict_str, ty_dict_tup, ty_dict_lst, ty_dict_dic, ty_dict_set, ty_set_non, ty_set_bl, ty_set_int, ty_set_str, ty_set_tup, ty_set_lst, ty_set_dic, ty_set_set]
  refine ⟨inB_of (by omega) (by omega), ?_⟩
  refine wp_for (fun i st => ∃ x9, st = [.v (.lst (ns.map .int)), .ow false (C.boxD b), .v (.int (n : Int)), x3, x4, .ow false (.lst ((rowN n).map natD)), x6, .un, .un, x9, .un, .un, .un, .un, .un, .un, .un, .un, .un, .un, .un, .un, .un, .un, .un] ∧ pl x9 = true) ⟨_, rfl, rfl⟩ (fun i d st e h => ?_) fun st h => ?_
  · obtain ⟨x9, rfl, hx9⟩ := h
    obtain ⟨hi, rfl⟩ := intsF_get0 e
    simp only [wp_ret, wp_stuck, wp_bnd, kb_ap, wp_lift, wo_some, wo_none, wo_ite, wo_map, wp_ite, ks_nx, ks_rt, ks_bk, ks_ct, wp_seq, wp_pk, kpk_v, kpk_ow, wp_rd, krd_v, krd_ow, wp_mv, kmv_v, kmv_ow, wp_cst, wp_use2, k2_ap, wp_op2, wp_use1, k1_ap, wp_op1, wp_useN, kN_ap, wp_opN, rsv_d, rsv_pk, ksv_v, ksv_ow, rsvs_nil, rsvs_cons, kcons_ap, wp_osN, wp_osC, wp_lsN, wp_lsC, wp_fsN, wp_fsC, wp_opd, wp_frz, wp_tupM, wp_lstM, wp_tst, ktst_bl, wp_notB, wp_andB, wp_orB, wp_andV, wp_orV, wp_notV, wp_ifE, wp_drop, wp_retM, wp_retN, fr_v, fr_un, fr_ow, pl_v, pl_un, fr_pl, frO_ap, plO_ap, slot_f, slot_t, wp_put, wp_setM, wp_parM, puts_nil, puts_cons, kt_ap, wt_N, wts_nil, wts_cons, wt_T, wp_setT, wp_tg, wp_appU, kap_ap, isL_ap, kapp_ap, wp_appE, wp_setP, kset_ap, wp_setIx, wp_setQ, wp_useF, kcall_ap, kpb_ap, kpe_ap, wp_callM, kargs_ap, argsOf_nil, argsOf_cons, argOf_d, argOf_pk, karg_v, karg_ow, pks_nil, pks_d, pks_pk, kpks_ow, kpks_v, nodupN_nil, nodupN_one, nodupN_cons, pb_nil, pb_d, pb_dU, pb_pk, kpbk_ap, kr_rt, kr_nx, kre_ap, wp_runB, back_nil, back_v, back_ow, wp_forM, wp_srcV, wp_srcA, kfor_nx, kfor_ct, kfor_bk, kfor_rt, wp_forGo_nil, wb_nil, npO_ap, wb_cons, wp_lcM, klc_ap, wp_lcB, kel_ap, kco_t, kco_f, kco_d, List.getElem?_cons_zero, List.getElem?_cons_succ, List.set_cons_zero, List.set_cons_succ, List.length_cons, List.length_nil, List.length_append, List.replicate_succ, List.replicate_zero, List.cons_append, List.nil_append, if_true, if_false, ite_true, ite_false, Bool.false_eq_true, true_and, and_true, decide_eq_true_eq, Bool.not_true, Bool.not_false, Bool.not_eq_true', decide_eq_false_iff_not, reduceIte, reduceCtorEq, Nat.zero_add, Nat.reduceAdd, Nat.reduceSub, List.contains_nil, List.contains_cons, Bool.and_true, Bool.or_false, Bool.and_self, beq_self_eq_true, Nat.reduceBEq, Nat.reduceEqDiff, Nat.succ_eq_add_one, rst, List.getD_cons_zero, List.getD_cons_succ, isF, lenF, listF, tupleF, o_int, o_inti, o_addl, o_addt, o_mulb, absF, minF, maxF, sumF, seqOf, eq_self, decide_true, decide_false, not_true_eq_false, not_false_eq_true, Bool.or_true, Bool.true_or, Bool.false_or, Bool.true_and, Bool.false_and, Bool.and_false, Option.map_some, Option.map_none, bne_f, bne_t, dec_not, fr_pl, nums_int, List.length_map, o_lt, o_le, o_gt, o_ge, o_add, o_sub, o_mul, o_div, o_mod, o_pow, o_rng1, o_rng2, at_0, at_1, at_2, at_3, at_4, at_5, at_nat, ix_0, ix_1, ix_2, ix_3, idx_l, idx_t, o_eq, o_eqb, small_nil, small_c1, small_c2, small_c3, small_c4, small_c5, small_c6, o_isi, ty_int_non, ty_int_bl, ty_int_int, ty_int_str, ty_int_tup, ty_int_lst, ty_int_dic, ty_int_set, ty_bool_non, ty_bool_bl, ty_bool_int, ty_bool_str, ty_bool_tup, ty_bool_lst, ty_bool_dic, ty_bool_set, ty_str_non, ty_str_bl, ty_str_int, ty_str_str, ty_str_tup, ty_str_lst, ty_str_dic, ty_str_set, ty_tuple_non, ty_tuple_bl, ty_tuple_int, ty_tuple_str, ty_tuple_tup, ty_tuple_lst, ty_tuple_dic, ty_tuple_set, ty_list_non, ty_list_bl, ty_list_int, ty_list_str, ty_list_tup, ty_list_lst, ty_list_dic, ty_list_set, ty_dict_non, ty_dict_bl, ty_dict_int, ty_dict_str, ty_dict_tup, ty_dict_lst, ty_dict_dic, ty_dict_set, ty_set_non, ty_set_bl, ty_set_int, ty_set_str, ty_set_tup, ty_set_lst, ty_set_dic, ty_set_set, hx9]
    refine wp_choose (by omega) (by omega) ?_
    simp only [wp_ret, wp_stuck, wp_bnd, kb_ap, wp_lift, wo_some, wo_none, wo_ite, wo_map, wp_ite, ks_nx, ks_rt, ks_bk, ks_ct, wp_seq, wp_pk, kpk_v, kpk_ow, wp_rd, krd_v, krd_ow, wp_mv, kmv_v, kmv_ow, wp_cst, wp_use2, k2_ap, wp_op2, wp_use1, k1_ap, wp_op1, wp_useN, kN_ap, wp_opN, rsv_d, rsv_pk, ksv_v, ksv_ow, rsvs_nil, rsvs_cons, kcons_ap, wp_osN, wp_osC, wp_lsN, wp_lsC, wp_fsN, wp_fsC, wp_opd, wp_frz, wp_tupM, wp_lstM, wp_tst, ktst_bl, wp_notB, wp_andB, wp_orB, wp_andV, wp_orV, wp_notV, wp_ifE, wp_drop, wp_retM, wp_retN, fr_v, fr_un, fr_ow, pl_v, pl_un, fr_pl, frO_ap, plO_ap, slot_f, slot_t, wp_put, wp_setM, wp_parM, puts_nil, puts_cons, kt_ap, wt_N, wts_nil, wts_cons, wt_T, wp_setT, wp_tg, wp_appU, kap_ap, isL_ap, kapp_ap, wp_appE, wp_setP, kset_ap, wp_setIx, wp_setQ, wp_useF, kcall_ap, kpb_ap, kpe_ap, wp_callM, kargs_ap, argsOf_nil, argsOf_cons, argOf_d, argOf_pk, karg_v, karg_ow, pks_nil, pks_d, pks_pk, kpks_ow, kpks_v, nodupN_nil, nodupN_one, nodupN_cons, pb_nil, pb_d, pb_dU, pb_pk, kpbk_ap, kr_rt, kr_nx, kre_ap, wp_runB, back_nil, back_v, back_ow, wp_forM, wp_srcV, wp_srcA, kfor_nx, kfor_ct, kfor_bk, kfor_rt, wp_forGo_nil, wb_nil, npO_ap, wb_cons, wp_lcM, klc_ap, wp_lcB, kel_ap, kco_t, kco_f, kco_d, List.getElem?_cons_zero, List.getElem?_cons_succ, List.set_cons_zero, List.set_cons_succ, List.length_cons, List.length_nil, List.length_append, List.replicate_succ, List.replicate_zero, List.cons_append, List.nil_append, if_true, if_false, ite_true, ite_false, Bool.false_eq_true, true_and, and_true, decide_eq_true_eq, Bool.not_true, Bool.not_false, Bool.not_eq_true', decide_eq_false_iff_not, reduceIte, reduceCtorEq, Nat.zero_add, Nat.reduceAdd, Nat.reduceSub, List.contains_nil, List.contains_cons, Bool.and_true, Bool.or_false, Bool.and_self, beq_self_eq_true, Nat.reduceBEq, Nat.reduceEqDiff, Nat.succ_eq_add_one, rst, List.getD_cons_zero, List.getD_cons_succ, isF, lenF, listF, tupleF, o_int, o_inti, o_addl, o_addt, o_mulb, absF, minF, maxF, sumF, seqOf, eq_self, decide_true, decide_false, not_true_eq_false, not_false_eq_true, Bool.or_true, Bool.true_or, Bool.false_or, Bool.true_and, Bool.false_and, Bool.and_false, Option.map_some, Option.map_none, bne_f, bne_t, dec_not, fr_pl, nums_int, List.length_map, o_lt, o_le, o_gt, o_ge, o_add, o_sub, o_mul, o_div, o_mod, o_pow, o_rng1, o_rng2, at_0, at_1, at_2, at_3, at_4, at_5, at_nat, ix_0, ix_1, ix_2, ix_3, idx_l, idx_t, o_eq, o_eqb, small_nil, small_c1, small_c2, small_c3, small_c4, small_c5, small_c6, o_isi, ty_int_non, ty_int_bl, ty_int_int, ty_int_str, ty_int_tup, ty_int_lst, ty_int_dic, ty_int_set, ty_bool_non, ty_bool_bl, ty_bool_int, ty_bool_str, ty_bool_tup, ty_bool_lst, ty_bool_dic, ty_bool_set, ty_str_non, ty_str_bl, ty_str_int, ty_str_str, ty_str_tup, ty_str_lst, ty_str_dic, ty_str_set, ty_tuple_non, ty_tuple_bl, ty_tuple_int, ty_tuple_str, ty_tuple_tup, ty_tuple_lst, ty_tuple_dic, ty_tuple_set, ty_list_non, ty_list_bl, ty_list_int, ty_list_str, ty_list_tup, ty_list_lst, ty_list_dic, ty_list_set, ty_dict_non, ty_dict_bl, ty_dict_int, ty_dict_str, ty_dict_tup, ty_dict_lst, ty_dict_dic, ty_dict_set, ty_set_non, ty_set_bl, ty_set_int, ty_set_str, ty_set_tup, ty_set_lst, ty_set_dic, ty_set_set, List.getElem?_map, rowN_get (show i ≤ n by omega), natD]
    refine wp_sameI rfl plain_int ?_
    simp only [wp_ret, wp_stuck, wp_bnd, kb_ap, wp_lift, wo_some, wo_none, wo_ite, wo_map, wp_ite, ks_nx, ks_rt, ks_bk, ks_ct, wp_seq, wp_pk, kpk_v, kpk_ow, wp_rd, krd_v, krd_ow, wp_mv, kmv_v, kmv_ow, wp_cst, wp_use2, k2_ap, wp_op2, wp_use1, k1_ap, wp_op1, wp_useN, kN_ap, wp_opN, rsv_d, rsv_pk, ksv_v, ksv_ow, rsvs_nil, rsvs_cons, kcons_ap, wp_osN, wp_osC, wp_lsN, wp_lsC, wp_fsN, wp_fsC, wp_opd, wp_frz, wp_tupM, wp_lstM, wp_tst, ktst_bl, wp_notB, wp_andB, wp_orB, wp_andV, wp_orV, wp_notV, wp_ifE, wp_drop, wp_retM, wp_retN, fr_v, fr_un, fr_ow, pl_v, pl_un, fr_pl, frO_ap, plO_ap, slot_f, slot_t, wp_put, wp_setM, wp_parM, puts_nil, puts_cons, kt_ap, wt_N, wts_nil, wts_cons, wt_T, wp_setT, wp_tg, wp_appU, kap_ap, isL_ap, kapp_ap, wp_appE, wp_setP, kset_ap, wp_setIx, wp_setQ, wp_useF, kcall_ap, kpb_ap, kpe_ap, wp_callM, kargs_ap, argsOf_nil, argsOf_cons, argOf_d, argOf_pk, karg_v, karg_ow, pks_nil, pks_d, pks_pk, kpks_ow, kpks_v, nodupN_nil, nodupN_one, nodupN_cons, pb_nil, pb_d, pb_dU, pb_pk, kpbk_ap, kr_rt, kr_nx, kre_ap, wp_runB, back_nil, back_v, back_ow, wp_forM, wp_srcV, wp_srcA, kfor_nx, kfor_ct, kfor_bk, kfor_rt, wp_forGo_nil, wb_nil, npO_ap, wb_cons, wp_lcM, klc_ap, wp_lcB, kel_ap, kco_t, kco_f, kco_d, List.getElem?_cons_zero, List.getElem?_cons_succ, List.set_cons_zero, List.set_cons_succ, List.length_cons, List.length_nil, List.length_append, List.replicate_succ, List.replicate_zero, List.cons_append, List.nil_append, if_true, if_false, ite_true, ite_false, Bool.false_eq_true, true_and, and_true, decide_eq_true_eq, Bool.not_true, Bool.not_false, Bool.not_eq_true', decide_eq_false_iff_not, reduceIte, reduceCtorEq, Nat.zero_add, Nat.reduceAdd, Nat.reduceSub, List.contains_nil, List.contains_cons, Bool.and_true, Bool.or_false, Bool.and_self, beq_self_eq_true, Nat.reduceBEq, Nat.reduceEqDiff, Nat.succ_eq_add_one, rst, List.getD_cons_zero, List.getD_cons_succ, isF, lenF, listF, tupleF, o_int, o_inti, o_addl, o_addt, o_mulb, absF, minF, maxF, sumF, seqOf, eq_self, decide_true, decide_false, not_true_eq_false, not_false_eq_true, Bool.or_true, Bool.true_or, Bool.false_or, Bool.true_and, Bool.false_and, Bool.and_false, Option.map_some, Option.map_none, bne_f, bne_t, dec_not, fr_pl, nums_int, List.length_map, o_lt, o_le, o_gt, o_ge, o_add, o_sub, o_mul, o_div, o_mod, o_pow, o_rng1, o_rng2, at_0, at_1, at_2, at_3, at_4, at_5, at_nat, ix_0, ix_1, ix_2, ix_3, idx_l, idx_t, o_eq, o_eqb, small_nil, small_c1, small_c2, small_c3, small_c4, small_c5, small_c6, o_isi, ty_int_non, ty_int_bl, ty_int_int, ty_int_str, ty_int_tup, ty_int_lst, ty_int_dic, ty_int_set, ty_bool_non, ty_bool_bl, ty_bool_int, ty_bool_str, ty_bool_tup, ty_bool_lst, ty_bool_dic, ty_bool_set, ty_str_non, ty_str_bl, ty_str_int, ty_str_str, ty_str_tup, ty_str_lst, ty_str_dic, ty_str_set, ty_tuple_non, ty_tuple_bl, ty_tuple_int, ty_tuple_str, ty_tuple_tup, ty_tuple_lst, ty_tuple_dic, ty_tuple_set, ty_list_non, ty_list_bl, ty_list_int, ty_list_str, ty_list_tup, ty_list_lst, ty_list_dic, ty_list_set, ty_dict_non, ty_dict_bl, ty_dict_int, ty_dict_str, ty_dict_tup, ty_dict_lst, ty_dict_dic, ty_dict_set, ty_set_non, ty_set_bl, ty_set_int, ty_set_str, ty_set_tup, ty_set_lst, ty_set_dic, ty_set_set]
    exact ⟨_, rfl, rfl⟩
  obtain ⟨x9, rfl, hx9⟩ := h
  simp only [wp_ret, wp_stuck, wp_bnd, kb_ap, wp_lift, wo_some, wo_none, wo_ite, wo_map, wp_ite, ks_nx, ks_rt, ks_bk, ks_ct, wp_seq, wp_pk, kpk_v, kpk_ow, wp_rd, krd_v, krd_ow, wp_mv, kmv_v, kmv_ow, wp_cst, wp_use2, k2_ap, wp_op2, wp_use1, k1_ap, wp_op1, wp_useN, kN_ap, wp_opN, rsv_d, rsv_pk, ksv_v, ksv_ow, rsvs_nil, rsvs_cons, kcons_ap, wp_osN, wp_osC, wp_lsN, wp_lsC, wp_fsN, wp_fsC, wp_opd, wp_frz, wp_tupM, wp_lstM, wp_tst, ktst_bl, wp_notB, wp_andB, wp_orB, wp_andV, wp_orV, wp_notV, wp_ifE, wp_drop, wp_retM, wp_retN, fr_v, fr_un, fr_ow, pl_v, pl_un, fr_pl, frO_ap, plO_ap, slot_f, slot_t, wp_put, wp_setM, wp_parM, puts_nil, puts_cons, kt_ap, wt_N, wts_nil, wts_cons, wt_T, wp_setT, wp_tg, wp_appU, kap_ap, isL_ap, kapp_ap, wp_appE, wp_setP, kset_ap, wp_setIx, wp_setQ, wp_useF, kcall_ap, kpb_ap, kpe_ap, wp_callM, kargs_ap, argsOf_nil, argsOf_cons, argOf_d, argOf_pk, karg_v, karg_ow, pks_nil, pks_d, pks_pk, kpks_ow, kpks_v, nodupN_nil, nodupN_one, nodupN_cons, pb_nil, pb_d, pb_dU, pb_pk, kpbk_ap, kr_rt, kr_nx, kre_ap, wp_runB, back_nil, back_v, back_ow, wp_forM, wp_srcV, wp_srcA, kfor_nx, kfor_ct, kfor_bk, kfor_rt, wp_forGo_nil, wb_nil, npO_ap, wb_cons, wp_lcM, klc_ap, wp_lcB, kel_ap, kco_t, kco_f, kco_d, List.getElem?_cons_zero, List.getElem?_cons_succ, List.set_cons_zero, List.set_cons_succ, List.length_cons, List.length_nil, List.length_append, List.replicate_succ, List.replicate_zero, List.cons_append, List.nil_append, if_true, if_false, ite_true, ite_false, Bool.false_eq_true, true_and, and_true, decide_eq_true_eq, Bool.not_true, Bool.not_false, Bool.not_eq_true', decide_eq_false_iff_not, reduceIte, reduceCtorEq, Nat.zero_add, Nat.reduceAdd, Nat.reduceSub, List.contains_nil, List.contains_cons, Bool.and_true, Bool.or_false, Bool.and_self, beq_self_eq_true, Nat.reduceBEq, Nat.reduceEqDiff, Nat.succ_eq_add_one, rst, List.getD_cons_zero, List.getD_cons_succ, isF, lenF, listF, tupleF, o_int, o_inti, o_addl, o_addt, o_mulb, absF, minF, maxF, sumF, seqOf, eq_self, decide_true, decide_false, not_true_eq_false, not_false_eq_true, Bool.or_true, Bool.true_or, Bool.false_or, Bool.true_and, Bool.false_and, Bool.and_false, Option.map_some, Option.map_none, bne_f, bne_t, dec_not, fr_pl, nums_int, List.length_map, o_lt, o_le, o_gt, o_ge, o_add, o_sub, o_mul, o_div, o_mod, o_pow, o_rng1, o_rng2, at_0, at_1, at_2, at_3, at_4, at_5, at_nat, ix_0, ix_1, ix_2, ix_3, idx_l, idx_t, o_eq, o_eqb, small_nil, small_c1, small_c2, small_c3, small_c4, small_c5, small_c6, o_isi, ty_int_non, ty_int_bl, ty_int_int, ty_int_str, ty_int_tup, ty_int_lst, ty_int_dic, ty_int_set, ty_bool_non, ty_bool_bl, ty_bool_int, ty_bool_str, ty_bool_tup, ty_bool_lst, ty_bool_dic, ty_bool_set, ty_str_non, ty_str_bl, ty_str_int, ty_str_str, ty_str_tup, ty_str_lst, ty_str_dic, ty_str_set, ty_tuple_non, ty_tuple_bl, ty_tuple_int, ty_tuple_str, ty_tuple_tup, ty_tuple_lst, ty_tuple_dic, ty_tuple_set, ty_list_non, ty_list_bl, ty_list_int, ty_list_str, ty_list_tup, ty_list_lst, ty_list_dic, ty_list_set, ty_dict_non, ty_dict_bl, ty_dict_int, ty_dict_str, ty_dict_tup, ty_dict_lst, ty_dict_dic, ty_dict_set, ty_set_non, ty_set_bl, ty_set_int, ty_set_str, ty_set_tup, ty_set_lst, ty_set_dic, ty_set_set]
  refine wp_choose0 (by omega) ?_
  simp only [wp_ret, wp_stuck, wp_bnd, kb_ap, wp_lift, wo_some, wo_none, wo_ite, wo_map, wp_ite, ks_nx, ks_rt, ks_bk, ks_ct, wp_seq, wp_pk, kpk_v, kpk_ow, wp_rd, krd_v, krd_ow, wp_mv, kmv_v, kmv_ow, wp_cst, wp_use2, k2_ap, wp_op2, wp_use1, k1_ap, wp_op1, wp_useN, kN_ap, wp_opN, rsv_d, rsv_pk, ksv_v, ksv_ow, rsvs_nil, rsvs_cons, kcons_ap, wp_osN, wp_osC, wp_lsN, wp_lsC, wp_fsN, wp_fsC, wp_opd, wp_frz, wp_tupM, wp_lstM, wp_tst, ktst_bl, wp_notB, wp_andB, wp_orB, wp_andV, wp_orV, wp_notV, wp_ifE, wp_drop, wp_retM, wp_retN, fr_v, fr_un, fr_ow, pl_v, pl_un, fr_pl, frO_ap, plO_ap, slot_f, slot_t, wp_put, wp_setM, wp_parM, puts_nil, puts_cons, kt_ap, wt_N, wts_nil, wts_cons, wt_T, wp_setT, wp_tg, wp_appU, kap_ap, isL_ap, kapp_ap, wp_appE, wp_setP, kset_ap, wp_setIx, wp_setQ, wp_useF, kcall_ap, kpb_ap, kpe_ap, wp_callM, kargs_ap, argsOf_nil, argsOf_cons, argOf_d, argOf_pk, karg_v, karg_ow, pks_nil, pks_d, pks_pk, kpks_ow, kpks_v, nodupN_nil, nodupN_one, nodupN_cons, pb_nil, pb_d, pb_dU, pb_pk, kpbk_ap, kr_rt, kr_nx, kre_ap, wp_runB, back_nil, back_v, back_ow, wp_forM, wp_srcV, wp_srcA, kfor_nx, kfor_ct, kfor_bk, kfor_rt, wp_forGo_nil, wb_nil, npO_ap, wb_cons, wp_lcM, klc_ap, wp_lcB, kel_ap, kco_t, kco_f, kco_d, List.getElem?_cons_zero, List.getElem?_cons_succ, List.set_cons_zero, List.set_cons_succ, List.length_cons, List.length_nil, List.length_append, List.replicate_succ, List.replicate_zero, List.cons_append, List.nil_append, if_true, if_false, ite_true, ite_false, Bool.false_eq_true, true_and, and_true, decide_eq_true_eq, Bool.not_true, Bool.not_false, Bool.not_eq_true', decide_eq_false_iff_not, reduceIte, reduceCtorEq, Nat.zero_add, Nat.reduceAdd, Nat.reduceSub, List.contains_nil, List.contains_cons, Bool.and_true, Bool.or_false, Bool.and_self, beq_self_eq_true, Nat.reduceBEq, Nat.reduceEqDiff, Nat.succ_eq_add_one, rst, List.getD_cons_zero, List.getD_cons_succ, isF, lenF, listF, tupleF, o_int, o_inti, o_addl, o_addt, o_mulb, absF, minF, maxF, sumF, seqOf, eq_self, decide_true, decide_false, not_true_eq_false, not_false_eq_true, Bool.or_true, Bool.true_or, Bool.false_or, Bool.true_and, Bool.false_and, Bool.and_false, Option.map_some, Option.map_none, bne_f, bne_t, dec_not, fr_pl, nums_int, List.length_map, o_lt, o_le, o_gt, o_ge, o_add, o_sub, o_mul, o_div, o_mod, o_pow, o_rng1, o_rng2, at_0, at_1, at_2, at_3, at_4, at_5, at_nat, ix_0, ix_1, ix_2, ix_3, idx_l, idx_t, o_eq, o_eqb, small_nil, small_c1, small_c2, small_c3, small_c4, small_c5, small_c6, o_isi, ty_int_non, ty_int_bl, ty_int_int, ty_int_str, ty_int_tup, ty_int_lst, ty_int_dic, ty_int_set, ty_bool_non, ty_bool_bl, ty_bool_int, ty_bool_str, ty_bool_tup, ty_bool_lst, ty_bool_dic, ty_bool_set, ty_str_non, ty_str_bl, ty_str_int, ty_str_str, ty_str_tup, ty_str_lst, ty_str_dic, ty_str_set, ty_tuple_non, ty_tuple_bl, ty_tuple_int, ty_tuple_str, ty_tuple_tup, ty_tuple_lst, ty_tuple_dic, ty_tuple_set, ty_list_non, ty_list_bl, ty_list_int, ty_list_str, ty_list_tup, ty_list_lst, ty_list_dic, ty_list_set, ty_dict_non, ty_dict_bl, ty_dict_int, ty_dict_str, ty_dict_tup, ty_dict_lst, ty_dict_dic, ty_dict_set, ty_set_non, ty_set_bl, ty_set_int, ty_set_str, ty_set_tup, ty_set_lst, ty_set_dic, ty_set_set]
  refine wp_choose0 (by omega) ?_
  simp only [wp_ret, wp_stuck, wp_bnd, kb_ap, wp_lift, wo_some, wo_none, wo_ite, wo_map, wp_ite, ks_nx, ks_rt, ks_bk, ks_ct, wp_seq, wp_pk, kpk_v, kpk_ow, wp_rd, krd_v, krd_ow, wp_mv, kmv_v, kmv_ow, wp_cst, wp_use2, k2_ap, wp_op2, wp_use1, k1_ap, wp_op1, wp_useN, kN_ap, wp_opN, rsv_d, rsv_pk, ksv_v, ksv_ow, rsvs_nil, rsvs_cons, kcons_ap, wp_osN, wp_osC, wp_lsN, wp_lsC, wp_fsN, wp_fsC, wp_opd, wp_frz, wp_tupM, wp_lstM, wp_tst, ktst_bl, wp_notB, wp_andB, wp_orB, wp_andV, wp_orV, wp_notV, wp_ifE, wp_drop, wp_retM, wp_retN, fr_v, fr_un, fr_ow, pl_v, pl_un, fr_pl, frO_ap, plO_ap, slot_f, slot_t, wp_put, wp_setM, wp_parM, puts_nil, puts_cons, kt_ap, wt_N, wts_nil, wts_cons, wt_T, wp_setT, wp_tg, wp_appU, kap_ap, isL_ap, kapp_ap, wp_appE, wp_setP, kset_ap, wp_setIx, wp_setQ, wp_useF, kcall_ap, kpb_ap, kpe_ap, wp_callM, kargs_ap, argsOf_nil, argsOf_cons, argOf_d, argOf_pk, karg_v, karg_ow, pks_nil, pks_d, pks_pk, kpks_ow, kpks_v, nodupN_nil, nodupN_one, nodupN_cons, pb_nil, pb_d, pb_dU, pb_pk, kpbk_ap, kr_rt, kr_nx, kre_ap, wp_runB, back_nil, back_v, back_ow, wp_forM, wp_srcV, wp_srcA, kfor_nx, kfor_ct, kfor_bk, kfor_rt, wp_forGo_nil, wb_nil, npO_ap, wb_cons, wp_lcM, klc_ap, wp_lcB, kel_ap, kco_t, kco_f, kco_d, List.getElem?_cons_zero, List.getElem?_cons_succ, List.set_cons_zero, List.set_cons_succ, List.length_cons, List.length_nil, List.length_append, List.replicate_succ, List.replicate_zero, List.cons_append, List.nil_append, if_true, if_false, ite_true, ite_false, Bool.false_eq_true, true_and, and_true, decide_eq_true_eq, Bool.not_true, Bool.not_false, Bool.not_eq_true', decide_eq_false_iff_not, reduceIte, reduceCtorEq, Nat.zero_add, Nat.reduceAdd, Nat.reduceSub, List.contains_nil, List.contains_cons, Bool.and_true, Bool.or_false, Bool.and_self, beq_self_eq_true, Nat.reduceBEq, Nat.reduceEqDiff, Nat.succ_eq_add_one, rst, List.getD_cons_zero, List.getD_cons_succ, isF, lenF, listF, tupleF, o_int, o_inti, o_addl, o_addt, o_mulb, absF, minF, maxF, sumF, seqOf, eq_self, decide_true, decide_false, not_true_eq_false, not_false_eq_true, Bool.or_true, Bool.true_or, Bool.false_or, Bool.true_and, Bool.false_and, Bool.and_false, Option.map_some, Option.map_none, bne_f, bne_t, dec_not, fr_pl, nums_int, List.length_map, o_lt, o_le, o_gt, o_ge, o_add, o_sub, o_mul, o_div, o_mod, o_pow, o_rng1, o_rng2, at_0, at_1, at_2, at_3, at_4, at_5, at_nat, ix_0, ix_1, ix_2, ix_3, idx_l, idx_t, o_eq, o_eqb, small_nil, small_c1, small_c2, small_c3, small_c4, small_c5, small_c6, o_isi, ty_int_non, ty_int_bl, ty_int_int, ty_int_str, ty_int_tup, ty_int_lst, ty_int_dic, ty_int_set, ty_bool_non, ty_bool_bl, ty_bool_int, ty_bool_str, ty_bool_tup, ty_bool_lst, ty_bool_dic, ty_bool_set, ty_str_non, ty_str_bl, ty_str_int, ty_str_str, ty_str_tup, ty_str_lst, ty_str_dic, ty_str_set, ty_tuple_non, ty_tuple_bl, ty_tuple_int, ty_tuple_str, ty_tuple_tup, ty_tuple_lst, ty_tuple_dic, ty_tuple_set, ty_list_non, ty_list_bl, ty_list_int, ty_list_str, ty_list_tup, ty_list_lst, ty_list_dic, ty_list_set, ty_dict_non, ty_dict_bl, ty_dict_int, ty_dict_str, ty_dict_tup, ty_dict_lst, ty_dict_dic, ty_dict_set, ty_set_non, ty_set_bl, ty_set_int, ty_set_str, ty_set_tup, ty_set_lst, ty_set_dic, ty_set_set]
  refine wp_choose0 (by omega) ?_
  simp only [wp_ret, wp_stuck, wp_bnd, kb_ap, wp_lift, wo_some, wo_none, wo_ite, wo_map, wp_ite, ks_nx, ks_rt, ks_bk, ks_ct, wp_seq, wp_pk, kpk_v, kpk_ow, wp_rd, krd_v, krd_ow, wp_mv, kmv_v, kmv_ow, wp_cst, wp_use2, k2_ap, wp_op2, wp_use1, k1_ap, wp_op1, wp_useN, kN_ap, wp_opN, rsv_d, rsv_pk, ksv_v, ksv_ow, rsvs_nil, rsvs_cons, kcons_ap, wp_osN, wp_osC, wp_lsN, wp_lsC, wp_fsN, wp_fsC, wp_opd, wp_frz, wp_tupM, wp_lstM, wp_tst, ktst_bl, wp_notB, wp_andB, wp_orB, wp_andV, wp_orV, wp_notV, wp_ifE, wp_drop, wp_retM, wp_retN, fr_v, fr_un, fr_ow, pl_v, pl_un, fr_pl, frO_ap, plO_ap, slot_f, slot_t, wp_put, wp_setM, wp_parM, puts_nil, puts_cons, kt_ap, wt_N, wts_nil, wts_cons, wt_T, wp_setT, wp_tg, wp_appU, kap_ap, isL_ap, kapp_ap, wp_appE, wp_setP, kset_ap, wp_setIx, wp_setQ, wp_useF, kcall_ap, kpb_ap, kpe_ap, wp_callM, kargs_ap, argsOf_nil, argsOf_cons, argOf_d, argOf_pk, karg_v, karg_ow, pks_nil, pks_d, pks_pk, kpks_ow, kpks_v, nodupN_nil, nodupN_one, nodupN_cons, pb_nil, pb_d, pb_dU, pb_pk, kpbk_ap, kr_rt, kr_nx, kre_ap, wp_runB, back_nil, back_v, back_ow, wp_forM, wp_srcV, wp_srcA, kfor_nx, kfor_ct, kfor_bk, kfor_rt, wp_forGo_nil, wb_nil, npO_ap, wb_cons, wp_lcM, klc_ap, wp_lcB, kel_ap, kco_t, kco_f, kco_d, List.getElem?_cons_zero, List.getElem?_cons_succ, List.set_cons_zero, List.set_cons_succ, List.length_cons, List.length_nil, List.length_append, List.replicate_succ, List.replicate_zero, List.cons_append, List.nil_append, if_true, if_false, ite_true, ite_false, Bool.false_eq_true, true_and, and_true, decide_eq_true_eq, Bool.not_true, Bool.not_false, Bool.not_eq_true', decide_eq_false_iff_not, reduceIte, reduceCtorEq, Nat.zero_add, Nat.reduceAdd, Nat.reduceSub, List.contains_nil, List.contains_cons, Bool.and_true, Bool.or_false, Bool.and_self, beq_self_eq_true, Nat.reduceBEq, Nat.reduceEqDiff, Nat.succ_eq_add_one, rst, List.getD_cons_zero, List.getD_cons_succ, isF, lenF, listF, tupleF, o_int, o_inti, o_addl, o_addt, o_mulb, absF, minF, maxF, sumF, seqOf, eq_self, decide_true, decide_false, not_true_eq_false, not_false_eq_true, Bool.or_true, Bool.true_or, Bool.false_or, Bool.true_and, Bool.false_and, Bool.and_false, Option.map_some, Option.map_none, bne_f, bne_t, dec_not, fr_pl, nums_int, List.length_map, o_lt, o_le, o_gt, o_ge, o_add, o_sub, o_mul, o_div, o_mod, o_pow, o_rng1, o_rng2, at_0, at_1, at_2, at_3, at_4, at_5, at_nat, ix_0, ix_1, ix_2, ix_3, idx_l, idx_t, o_eq, o_eqb, small_nil, small_c1, small_c2, small_c3, small_c4, small_c5, small_c6, o_isi, ty_int_non, ty_int_bl, ty_int_int, ty_int_str, ty_int_tup, ty_int_lst, ty_int_dic, ty_int_set, ty_bool_non, ty_bool_bl, ty_bool_int, ty_bool_str, ty_bool_tup, ty_bool_lst, ty_bool_dic, ty_bool_set, ty_str_non, ty_str_bl, ty_str_int, ty_str_str, ty_str_tup, ty_str_lst, ty_str_dic, ty_str_set, ty_tuple_non, ty_tuple_bl, ty_tuple_int, ty_tuple_str, ty_tuple_tup, ty_tuple_lst, ty_tuple_dic, ty_tuple_set, ty_list_non, ty_list_bl, ty_list_int, ty_list_str, ty_list_tup, ty_list_lst, ty_list_dic, ty_list_set, ty_dict_non, ty_dict_bl, ty_dict_int, ty_dict_str, ty_dict_tup, ty_dict_lst, ty_dict_dic, ty_dict_set, ty_set_non, ty_set_bl, ty_set_int, ty_set_str, ty_set_tup, ty_set_lst, ty_set_dic, ty_set_set]
  refine C.wp_draw hb (by decide) (by decide) (by decide) fun m b hm hb => ?_
  simp only [wp_ret, wp_stuck, wp_bnd, kb_ap, wp_lift, wo_some, wo_none, wo_ite, wo_map, wp_ite, ks_nx, ks_rt, ks_bk, ks_ct, wp_seq, wp_pk, kpk_v, kpk_ow, wp_rd, krd_v, krd_ow, wp_mv, kmv_v, kmv_ow, wp_cst, wp_use2, k2_ap, wp_op2, wp_use1, k1_ap, wp_op1, wp_useN, kN_ap, wp_opN, rsv_d, rsv_pk, ksv_v, ksv_ow, rsvs_nil, rsvs_cons, kcons_ap, wp_osN, wp_osC, wp_lsN, wp_lsC, wp_fsN, wp_fsC, wp_opd, wp_frz, wp_tupM, wp_lstM, wp_tst, ktst_bl, wp_notB, wp_andB, wp_orB, wp_andV, wp_orV, wp_notV, wp_ifE, wp_drop, wp_retM, wp_retN, fr_v, fr_un, fr_ow, pl_v, pl_un, fr_pl, frO_ap, plO_ap, slot_f, slot_t, wp_put, wp_setM, wp_parM, puts_nil, puts_cons, kt_ap, wt_N, wts_nil, wts_cons, wt_T, wp_setT, wp_tg, wp_appU, kap_ap, isL_ap, kapp_ap, wp_appE, wp_setP, kset_ap, wp_setIx, wp_setQ, wp_useF, kcall_ap, kpb_ap, kpe_ap, wp_callM, kargs_ap, argsOf_nil, argsOf_cons, argOf_d, argOf_pk, karg_v, karg_ow, pks_nil, pks_d, pks_pk, kpks_ow, kpks_v, nodupN_nil, nodupN_one, nodupN_cons, pb_nil, pb_d, pb_dU, pb_pk, kpbk_ap, kr_rt, kr_nx, kre_ap, wp_runB, back_nil, back_v, back_ow, wp_forM, wp_srcV, wp_srcA, kfor_nx, kfor_ct, kfor_bk, kfor_rt, wp_forGo_nil, wb_nil, npO_ap, wb_cons, wp_lcM, klc_ap, wp_lcB, kel_ap, kco_t, kco_f, kco_d, List.getElem?_cons_zero, List.getElem?_cons_succ, List.set_cons_zero, List.set_cons_succ, List.length_cons, List.length_nil, List.length_append, List.replicate_succ, List.replicate_zero, List.cons_append, List.nil_append, if_true, if_false, ite_true, ite_false, Bool.false_eq_true, true_and, and_true, decide_eq_true_eq, Bool.not_true, Bool.not_false, Bool.not_eq_true', decide_eq_false_iff_not, reduceIte, reduceCtorEq, Nat.zero_add, Nat.reduceAdd, Nat.reduceSub, List.contains_nil, List.contains_cons, Bool.and_true, Bool.or_false, Bool.and_self, beq_self_eq_true, Nat.reduceBEq, Nat.reduceEqDiff, Nat.succ_eq_add_one, rst, List.getD_cons_zero, List.getD_cons_succ, isF, lenF, listF, tupleF, o_int, o_inti, o_addl, o_addt, o_mulb, absF, minF, maxF, sumF, seqOf, eq_self, decide_true, decide_false, not_true_eq_false, not_false_eq_true, Bool.or_true, Bool.true_or, Bool.false_or, Bool.true_and, Bool.false_and, Bool.and_false, Option.map_some, Option.map_none, bne_f, bne_t, dec_not, fr_pl, nums_int, List.length_map, o_lt, o_le, o_gt, o_ge, o_add, o_sub, o_mul, o_div, o_mod, o_pow, o_rng1, o_rng2, at_0, at_1, at_2, at_3, at_4, at_5, at_nat, ix_0, ix_1, ix_2, ix_3, idx_l, idx_t, o_eq, o_eqb, small_nil, small_c1, small_c2, small_c3, small_c4, small_c5, small_c6, o_isi, ty_int_non, ty_int_bl, ty_int_int, ty_int_str, ty_int_tup, ty_int_lst, ty_int_dic, ty_int_set, ty_bool_non, ty_bool_bl, ty_bool_int, ty_bool_str, ty_bool_tup, ty_bool_lst, ty_bool_dic, ty_bool_set, ty_str_non, ty_str_bl, ty_str_int, ty_str_str, ty_str_tup, ty_str_lst, ty_str_dic, ty_str_set, ty_tuple_non, ty_tuple_bl, ty_tuple_int, ty_tuple_str, ty_tuple_tup, ty_tuple_lst, ty_tuple_dic, ty_tuple_set, ty_list_non, ty_list_bl, ty_list_int, ty_list_str, ty_list_tup, ty_list_lst, ty_list_dic, ty_list_set, ty_dict_non, ty_dict_bl, ty_dict_int, ty_dict_str, ty_dict_tup, ty_dict_lst, ty_dict_dic, ty_dict_set, ty_set_non, ty_set_bl, ty_set_int, ty_set_str, ty_set_tup, ty_set_lst, ty_set_dic, ty_set_set, hx6]
  refine ⟨inB_of (by omega) (by omega), ?_⟩
  refine wp_lc (fun i es st => ∃ (l : List Nat) (b : C.Box), st = [.v (.lst (ns.map .int)), .ow false (C.boxD b), .v (.int (n : Int)), x3, x4, .ow false (.lst ((rowN n).map natD)), .un, .un, .un, x9, .un, .un, .un, .un, .un, .un, .un, .un, .un, .un, .un, .un, .un, .un, .un] ∧ es = l.map natD ∧ l.length = i ∧ (∀ s, s ∈ l → s ≤ 8) ∧ C.BoxOk (2 + i) b) ⟨[], b, rfl, rfl, rfl, by simp, hb.mono (by omega)⟩ (fun i d es st e h => ?_) fun es st h => ?_
  · obtain ⟨l, b, rfl, rfl, hl, h8, hb⟩ := h
    obtain ⟨hi, rfl⟩ := intsF_get0 e
    simp only [wp_ret, wp_stuck, wp_bnd, kb_ap, wp_lift, wo_some, wo_none, wo_ite, wo_map, wp_ite, ks_nx, ks_rt, ks_bk, ks_ct, wp_seq, wp_pk, kpk_v, kpk_ow, wp_rd, krd_v, krd_ow, wp_mv, kmv_v, kmv_ow, wp_cst, wp_use2, k2_ap, wp_op2, wp_use1, k1_ap, wp_op1, wp_useN, kN_ap, wp_opN, rsv_d, rsv_pk, ksv_v, ksv_ow, rsvs_nil, rsvs_cons, kcons_ap, wp_osN, wp_osC, wp_lsN, wp_lsC, wp_fsN, wp_fsC, wp_opd, wp_frz, wp_tupM, wp_lstM, wp_tst, ktst_bl, wp_notB, wp_andB, wp_orB, wp_andV, wp_orV, wp_notV, wp_ifE, wp_drop, wp_retM, wp_retN, fr_v, fr_un, fr_ow, pl_v, pl_un, fr_pl, frO_ap, plO_ap, slot_f, slot_t, wp_put, wp_setM, wp_parM, puts_nil, puts_cons, kt_ap, wt_N, wts_nil, wts_cons, wt_T, wp_setT, wp_tg, wp_appU, kap_ap, isL_ap, kapp_ap, wp_appE, wp_setP, kset_ap, wp_setIx, wp_setQ, wp_useF, kcall_ap, kpb_ap, kpe_ap, wp_callM, kargs_ap, argsOf_nil, argsOf_cons, argOf_d, argOf_pk, karg_v, karg_ow, pks_nil, pks_d, pks_pk, kpks_ow, kpks_v, nodupN_nil, nodupN_one, nodupN_cons, pb_nil, pb_d, pb_dU, pb_pk, kpbk_ap, kr_rt, kr_nx, kre_ap, wp_runB, back_nil, back_v, back_ow, wp_forM, wp_srcV, wp_srcA, kfor_nx, kfor_ct, kfor_bk, kfor_rt, wp_forGo_nil, wb_nil, npO_ap, wb_cons, wp_lcM, klc_ap, wp_lcB, kel_ap, kco_t, kco_f, kco_d, List.getElem?_cons_zero, List.getElem?_cons_succ, List.set_cons_zero, List.set_cons_succ, List.length_cons, List.length_nil, List.length_append, List.replicate_succ, List.replicate_zero, List.cons_append, List.nil_append, if_true, if_false, ite_true, ite_false, Bool.false_eq_true, true_and, and_true, decide_eq_true_eq, Bool.not_true, Bool.not_false, Bool.not_eq_true', decide_eq_false_iff_not, reduceIte, reduceCtorEq, Nat.zero_add, Nat.reduceAdd, Nat.reduceSub, List.contains_nil, List.contains_cons, Bool.and_true, Bool.or_false, Bool.and_self, beq_self_eq_true, Nat.reduceBEq, Nat.reduceEqDiff, Nat.succ_eq_add_one, rst, List.getD_cons_zero, List.getD_cons_succ, isF, lenF, listF, tupleF, o_int, o_inti, o_addl, o_addt, o_mulb, absF, minF, maxF, sumF, seqOf, eq_self, decide_true, decide_false, not_true_eq_false, not_false_eq_true, Bool.or_true, Bool.true_or, Bool.false_or, Bool.true_and, Bool.false_and, Bool.and_false, Option.map_some, Option.map_none, bne_f, bne_t, dec_not, fr_pl, nums_int, List.length_map, o_lt, o_le, o_gt, o_ge, o_add, o_sub, o_mul, o_div, o_mod, o_pow, o_rng1, o_rng2, at_0, at_1, at_2, at_3, at_4, at_5, at_nat, ix_0, ix_1, ix_2, ix_3, idx_l, idx_t, o_eq, o_eqb, small_nil, small_c1, small_c2, small_c3, small_c4, small_c5, small_c6, o_isi, ty_int_non, ty_int_bl, ty_int_int, ty_int_str, ty_int_tup, ty_int_lst, ty_int_dic, ty_int_set, ty_bool_non, ty_bool_bl, ty_bool_int, ty_bool_str, ty_bool_tup, ty_bool_lst, ty_bool_dic, ty_bool_set, ty_str_non, ty_str_bl, ty_str_int, ty_str_str, ty_str_tup, ty_str_lst, ty_str_dic, ty_str_set, ty_tuple_non, ty_tuple_bl, ty_tuple_int, ty_tuple_str, ty_tuple_tup, ty_tuple_lst, ty_tuple_dic, ty_tuple_set, ty_list_non, ty_list_bl, ty_list_int, ty_list_str, ty_list_tup, ty_list_lst, ty_list_dic, ty_list_set, ty_dict_non, ty_dict_bl, ty_dict_int, ty_dict_str, ty_dict_tup, ty_dict_lst, ty_dict_dic, ty_dict_set, ty_set_non, ty_set_bl, ty_set_int, ty_set_str, ty_set_tup, ty_set_lst, ty_set_dic, ty_set_set]
    refine C.wp_draw hb (by decide) (by decide) (by omega) fun r b hr hb => ?_
    simp only [wp_ret, wp_stuck, wp_bnd, kb_ap, wp_lift, wo_some, wo_none, wo_ite, wo_map, wp_ite, ks_nx, ks_rt, ks_bk, ks_ct, wp_seq, wp_pk, kpk_v, kpk_ow, wp_rd, krd_v, krd_ow, wp_mv, kmv_v, kmv_ow, wp_cst, wp_use2, k2_ap, wp_op2, wp_use1, k1_ap, wp_op1, wp_useN, kN_ap, wp_opN, rsv_d, rsv_pk, ksv_v, ksv_ow, rsvs_nil, rsvs_cons, kcons_ap, wp_osN, wp_osC, wp_lsN, wp_lsC, wp_fsN, wp_fsC, wp_opd, wp_frz, wp_tupM, wp_lstM, wp_tst, ktst_bl, wp_notB, wp_andB, wp_orB, wp_andV, wp_orV, wp_notV, wp_ifE, wp_drop, wp_retM, wp_retN, fr_v, fr_un, fr_ow, pl_v, pl_un, fr_pl, frO_ap, plO_ap, slot_f, slot_t, wp_put, wp_setM, wp_parM, puts_nil, puts_cons, kt_ap, wt_N, wts_nil, wts_cons, wt_T, wp_setT, wp_tg, wp_appU, kap_ap, isL_ap, kapp_ap, wp_appE, wp_setP, kset_ap, wp_setIx, wp_setQ, wp_useF, kcall_ap, kpb_ap, kpe_ap, wp_callM, kargs_ap, argsOf_nil, argsOf_cons, argOf_d, argOf_pk, karg_v, karg_ow, pks_nil, pks_d, pks_pk, kpks_ow, kpks_v, nodupN_nil, nodupN_one, nodupN_cons, pb_nil, pb_d, pb_dU, pb_pk, kpbk_ap, kr_rt, kr_nx, kre_ap, wp_runB, back_nil, back_v, back_ow, wp_forM, wp_srcV, wp_srcA, kfor_nx, kfor_ct, kfor_bk, kfor_rt, wp_forGo_nil, wb_nil, npO_ap, wb_cons, wp_lcM, klc_ap, wp_lcB, kel_ap, kco_t, kco_f, kco_d, List.getElem?_cons_zero, List.getElem?_cons_succ, List.set_cons_zero, List.set_cons_succ, List.length_cons, List.length_nil, List.length_append, List.replicate_succ, List.replicate_zero, List.cons_append, List.nil_append, if_true, if_false, ite_true, ite_false, Bool.false_eq_true, true_and, and_true, decide_eq_true_eq, Bool.not_true, Bool.not_false, Bool.not_eq_true', decide_eq_false_iff_not, reduceIte, reduceCtorEq, Nat.zero_add, Nat.reduceAdd, Nat.reduceSub, List.contains_nil, List.contains_cons, Bool.and_true, Bool.or_false, Bool.and_self, beq_self_eq_true, Nat.reduceBEq, Nat.reduceEqDiff, Nat.succ_eq_add_one, rst, List.getD_cons_zero, List.getD_cons_succ, isF, lenF, listF, tupleF, o_int, o_inti, o_addl, o_addt, o_mulb, absF, minF, maxF, sumF, seqOf, eq_self, decide_true, decide_false, not_true_eq_false, not_false_eq_true, Bool.or_true, Bool.true_or, Bool.false_or, Bool.true_and, Bool.false_and, Bool.and_false, Option.map_some, Option.map_none, bne_f, bne_t, dec_not, fr_pl, nums_int, List.length_map, o_lt, o_le, o_gt, o_ge, o_add, o_sub, o_mul, o_div, o_mod, o_pow, o_rng1, o_rng2, at_0, at_1, at_2, at_3, at_4, at_5, at_nat, ix_0, ix_1, ix_2, ix_3, idx_l, idx_t, o_eq, o_eqb, small_nil, small_c1, small_c2, small_c3, small_c4, small_c5, small_c6, o_isi, ty_int_non, ty_int_bl, ty_int_int, ty_int_str, ty_int_tup, ty_int_lst, ty_int_dic, ty_int_set, ty_bool_non, ty_bool_bl, ty_bool_int, ty_bool_str, ty_bool_tup, ty_bool_lst, ty_bool_dic, ty_bool_set, ty_str_non, ty_str_bl, ty_str_int, ty_str_str, ty_str_tup, ty_str_lst, ty_str_dic, ty_str_set, ty_tuple_non, ty_tuple_bl, ty_tuple_int, ty_tuple_str, ty_tuple_tup, ty_tuple_lst, ty_tuple_dic, ty_tuple_set, ty_list_non, ty_list_bl, ty_list_int, ty_list_str, ty_list_tup, ty_list_lst, ty_list_dic, ty_list_set, ty_dict_non, ty_dict_bl, ty_dict_int, ty_dict_str, ty_dict_tup, ty_dict_lst, ty_dict_dic, ty_dict_set, ty_set_non, ty_set_bl, ty_set_int, ty_set_str, ty_set_tup, ty_set_lst, ty_set_dic, ty_set_set]
    refine ⟨l ++ [r], b, rfl, ?_, ?_, fun s hs => ?_, hb⟩
    · rw [List.map_append]; rfl
    · rw [List.length_append, hl]; rfl
    · rcases List.mem_append.mp hs with hs | hs
      · exact h8 s hs
      · rw [List.mem_singleton.mp hs]; omega
  obtain ⟨l, b, rfl, rfl, hl, h8, hb⟩ := h
  rw [intsF_len, Int.toNat_natCast] at hl hb
  have hl5 : l.length ≤ 5 := by omega
  simp only [wp_ret, wp_stuck, wp_bnd, kb_ap, wp_lift, wo_some, wo_none, wo_ite, wo_map, wp_ite, ks_nx, ks_rt, ks_bk, ks_ct, wp_seq, wp_pk, kpk_v, kpk_ow, wp_rd, krd_v, krd_ow, wp_mv, kmv_v, kmv_ow, wp_cst, wp_use2, k2_ap, wp_op2, wp_use1, k1_ap, wp_op1, wp_useN, kN_ap, wp_opN, rsv_d, rsv_pk, ksv_v, ksv_ow, rsvs_nil, rsvs_cons, kcons_ap, wp_osN, wp_osC, wp_lsN, wp_lsC, wp_fsN, wp_fsC, wp_opd, wp_frz, wp_tupM, wp_lstM, wp_tst, ktst_bl, wp_notB, wp_andB, wp_orB, wp_andV, wp_orV, wp_notV, wp_ifE, wp_drop, wp_retM, wp_retN, fr_v, fr_un, fr_ow, pl_v, pl_un, fr_pl, frO_ap, plO_ap, slot_f, slot_t, wp_put, wp_setM, wp_parM, puts_nil, puts_cons, kt_ap, wt_N, wts_nil, wts_cons, wt_T, wp_setT, wp_tg, wp_appU, kap_ap, isL_ap, kapp_ap, wp_appE, wp_setP, kset_ap, wp_setIx, wp_setQ, wp_useF, kcall_ap, kpb_ap, kpe_ap, wp_callM, kargs_ap, argsOf_nil, argsOf_cons, argOf_d, argOf_pk, karg_v, karg_ow, pks_nil, pks_d, pks_pk, kpks_ow, kpks_v, nodupN_nil, nodupN_one, nodupN_cons, pb_nil, pb_d, pb_dU, pb_pk, kpbk_ap, kr_rt, kr_nx, kre_ap, wp_runB, back_nil, back_v, back_ow, wp_forM, wp_srcV, wp_srcA, kfor_nx, kfor_ct, kfor_bk, kfor_rt, wp_forGo_nil, wb_nil, npO_ap, wb_cons, wp_lcM, klc_ap, wp_lcB, kel_ap, kco_t, kco_f, kco_d, List.getElem?_cons_zero, List.getElem?_cons_succ, List.set_cons_zero, List.set_cons_succ, List.length_cons, List.length_nil, List.length_append, List.replicate_succ, List.replicate_zero, List.cons_append, List.nil_append, if_true, if_false, ite_true, ite_false, Bool.false_eq_true, true_and, and_true, decide_eq_true_eq, Bool.not_true, Bool.not_false, Bool.not_eq_true', decide_eq_false_iff_not, reduceIte, reduceCtorEq, Nat.zero_add, Nat.reduceAdd, Nat.reduceSub, List.contains_nil, List.contains_cons, Bool.and_true, Bool.or_false, Bool.and_self, beq_self_eq_true, Nat.reduceBEq, Nat.reduceEqDiff, Nat.succ_eq_add_one, rst, List.getD_cons_zero, List.getD_cons_succ, isF, lenF, listF, tupleF, o_int, o_inti, o_addl, o_addt, o_mulb, absF, minF, maxF, sumF, seqOf, eq_self, decide_true, decide_false, not_true_eq_false, not_false_eq_true, Bool.or_true, Bool.true_or, Bool.false_or, Bool.true_and, Bool.false_and, Bool.and_false, Option.map_some, Option.map_none, bne_f, bne_t, dec_not, fr_pl, nums_int, List.length_map, o_lt, o_le, o_gt, o_ge, o_add, o_sub, o_mul, o_div, o_mod, o_pow, o_rng1, o_rng2, at_0, at_1, at_2, at_3, at_4, at_5, at_nat, ix_0, ix_1, ix_2, ix_3, idx_l, idx_t, o_eq, o_eqb, small_nil, small_c1, small_c2, small_c3, small_c4, small_c5, small_c6, o_isi, ty_int_non, ty_int_bl, ty_int_int, ty_int_str, ty_int_tup, ty_int_lst, ty_int_dic, ty_int_set, ty_bool_non, ty_bool_bl, ty_bool_int, ty_bool_str, ty_bool_tup, ty_bool_lst, ty_bool_dic, ty_bool_set, ty_str_non, ty_str_bl, ty_str_int, ty_str_str, ty_str_tup, ty_str_lst, ty_str_dic, ty_str_set, ty_tuple_non, ty_tuple_bl, ty_tuple_int, ty_tuple_str, ty_tuple_tup, ty_tuple_lst, ty_tuple_dic, ty_tuple_set, ty_list_non, ty_list_bl, ty_list_int, ty_list_str, ty_list_tup, ty_list_lst, ty_list_dic, ty_list_set, ty_dict_non, ty_dict_bl, ty_dict_int, ty_dict_str, ty_dict_tup, ty_dict_lst, ty_dict_dic, ty_dict_set, ty_set_non, ty_set_bl, ty_set_int, ty_set_str, ty_set_tup, ty_set_lst, ty_set_dic, ty_set_set, hx6]
  refine ⟨small_of (by rw [List.length_map]; omega), ?_⟩
  refine wp_forL (dec := natD) (fun rem st => ∃ (w t : Nat) (q : List Nat) (x4 x14 : SV), st = [.v (.lst (ns.map .int)), .ow false (C.boxD b), .v (.int (n : Int)), x3, x4, .ow false (.lst ((rowN n).map natD)), x6, .un, .un, x9, .v (.lst (l.map natD)), .v (.int (w : Int)), .v (.int (t : Int)), .ow false (.lst (q.map natD)), x14, .un, .un, .un, .un, .un, .un, .un, .un, .un, .un] ∧ pl x4 = true ∧ pl x14 = true ∧ mixA w t rem = mixA 0 1 l ∧ Sz l w t rem ∧ q ++ sumsA w rem = sumsA 0 l ∧ q.length + rem.length ≤ 5)
    (fun s rem st h => ?_) (fun st h => ?_) l _ ⟨0, 1, [], _, _, rfl, hx4, rfl, rfl, ⟨hl5, h8, by omega, Nat.one_le_two_pow⟩, rfl, by simpa using hl5⟩
  · obtain ⟨w, t, q, x4, x14, rfl, hx4, hx14, hm, hs, hq, hc⟩ := h
    obtain ⟨a1, a2, a3, a4⟩ := hs.step
    simp only [List.length_cons] at hc
    simp only [wp_ret, wp_stuck, wp_bnd, kb_ap, wp_lift, wo_some, wo_none, wo_ite, wo_map, wp_ite, ks_nx, ks_rt, ks_bk, ks_ct, wp_seq, wp_pk, kpk_v, kpk_ow, wp_rd, krd_v, krd_ow, wp_mv, kmv_v, kmv_ow, wp_cst, wp_use2, k2_ap, wp_op2, wp_use1, k1_ap, wp_op1, wp_useN, kN_ap, wp_opN, rsv_d, rsv_pk, ksv_v, ksv_ow, rsvs_nil, rsvs_cons, kcons_ap, wp_osN, wp_osC, wp_lsN, wp_lsC, wp_fsN, wp_fsC, wp_opd, wp_frz, wp_tupM, wp_lstM, wp_tst, ktst_bl, wp_notB, wp_andB, wp_orB, wp_andV, wp_orV, wp_notV, wp_ifE, wp_drop, wp_retM, wp_retN, fr_v, fr_un, fr_ow, pl_v, pl_un, fr_pl, frO_ap, plO_ap, slot_f, slot_t, wp_put, wp_setM, wp_parM, puts_nil, puts_cons, kt_ap, wt_N, wts_nil, wts_cons, wt_T, wp_setT, wp_tg, wp_appU, kap_ap, isL_ap, kapp_ap, wp_appE, wp_setP, kset_ap, wp_setIx, wp_setQ, wp_useF, kcall_ap, kpb_ap, kpe_ap, wp_callM, kargs_ap, argsOf_nil, argsOf_cons, argOf_d, argOf_pk, karg_v, karg_ow, pks_nil, pks_d, pks_pk, kpks_ow, kpks_v, nodupN_nil, nodupN_one, nodupN_cons, pb_nil, pb_d, pb_dU, pb_pk, kpbk_ap, kr_rt, kr_nx, kre_ap, wp_runB, back_nil, back_v, back_ow, wp_forM, wp_srcV, wp_srcA, kfor_nx, kfor_ct, kfor_bk, kfor_rt, wp_forGo_nil, wb_nil, npO_ap, wb_cons, wp_lcM, klc_ap, wp_lcB, kel_ap, kco_t, kco_f, kco_d, List.getElem?_cons_zero, List.getElem?_cons_succ, List.set_cons_zero, List.set_cons_succ, List.length_cons, List.length_nil, List.length_append, List.replicate_succ, List.replicate_zero, List.cons_append, List.nil_append, if_true, if_false, ite_true, ite_false, Bool.false_eq_true, true_and, and_true, decide_eq_true_eq, Bool.not_true, Bool.not_false, Bool.not_eq_true', decide_eq_false_iff_not, reduceIte, reduceCtorEq, Nat.zero_add, Nat.reduceAdd, Nat.reduceSub, List.contains_nil, List.contains_cons, Bool.and_true, Bool.or_false, Bool.and_self, beq_self_eq_true, Nat.reduceBEq, Nat.reduceEqDiff, Nat.succ_eq_add_one, rst, List.getD_cons_zero, List.getD_cons_succ, isF, lenF, listF, tupleF, o_int, o_inti, o_addl, o_addt, o_mulb, absF, minF, maxF, sumF, seqOf, eq_self, decide_true, decide_false, not_true_eq_false, not_false_eq_true, Bool.or_true, Bool.true_or, Bool.false_or, Bool.true_and, Bool.false_and, Bool.and_false, Option.map_some, Option.map_none, bne_f, bne_t, dec_not, fr_pl, nums_int, List.length_map, o_lt, o_le, o_gt, o_ge, o_add, o_sub, o_mul, o_div, o_mod, o_pow, o_rng1, o_rng2, at_0, at_1, at_2, at_3, at_4, at_5, at_nat, ix_0, ix_1, ix_2, ix_3, idx_l, idx_t, o_eq, o_eqb, small_nil, small_c1, small_c2, small_c3, small_c4, small_c5, small_c6, o_isi, ty_int_non, ty_int_bl, ty_int_int, ty_int_str, ty_int_tup, ty_int_lst, ty_int_dic, ty_int_set, ty_bool_non, ty_bool_bl, ty_bool_int, ty_bool_str, ty_bool_tup, ty_bool_lst, ty_bool_dic, ty_bool_set, ty_str_non, ty_str_bl, ty_str_int, ty_str_str, ty_str_tup, ty_str_lst, ty_str_dic, ty_str_set, ty_tuple_non, ty_tuple_bl, ty_tuple_int, ty_tuple_str, ty_tuple_tup, ty_tuple_lst, ty_tuple_dic, ty_tuple_set, ty_list_non, ty_list_bl, ty_list_int, ty_list_str, ty_list_tup, ty_list_lst, ty_list_dic, ty_list_set, ty_dict_non, ty_dict_bl, ty_dict_int, ty_dict_str, ty_dict_tup, ty_dict_lst, ty_dict_dic, ty_dict_set, ty_set_non, ty_set_bl, ty_set_int, ty_set_str, ty_set_tup, ty_set_lst, ty_set_dic, ty_set_set, hx4, hx14, natD]
    refine ⟨sz' (by omega), inB_of (by omega) (by omega), ?_⟩
    rw [show (w : Int) + (s : Int) = ((w + s : Nat) : Int) from rfl]
    refine wp_for (fun j st => ∃ (x4 : SV), st = [.v (.lst (ns.map .int)), .ow false (C.boxD b), .v (.int (n : Int)), x3, x4, .ow false (.lst ((rowN n).map natD)), x6, .un, .un, x9, .v (.lst (l.map natD)), .v (.int ((w + s : Nat) : Int)), .v (.int ((t * bin (w + s) j : Nat) : Int)), .ow false (.lst (q.map natD ++ [.int ((w + s : Nat) : Int)])), .v (.int (s : Int)), .un, .un, .un, .un, .un, .un, .un, .un, .un, .un] ∧ pl x4 = true)
      ⟨_, by rw [bin_0, Nat.mul_one], hx4⟩ (fun j d st e h => ?_) fun st h => ?_
    · obtain ⟨x4, rfl, hx4⟩ := h
      obtain ⟨hj, rfl⟩ := intsF_get0 e
      simp only [wp_ret, wp_stuck, wp_bnd, kb_ap, wp_lift, wo_some, wo_none, wo_ite, wo_map, wp_ite, ks_nx, ks_rt, ks_bk, ks_ct, wp_seq, wp_pk, kpk_v, kpk_ow, wp_rd, krd_v, krd_ow, wp_mv, kmv_v, kmv_ow, wp_cst, wp_use2, k2_ap, wp_op2, wp_use1, k1_ap, wp_op1, wp_useN, kN_ap, wp_opN, rsv_d, rsv_pk, ksv_v, ksv_ow, rsvs_nil, rsvs_cons, kcons_ap, wp_osN, wp_osC, wp_lsN, wp_lsC, wp_fsN, wp_fsC, wp_opd, wp_frz, wp_tupM, wp_lstM, wp_tst, ktst_bl, wp_notB, wp_andB, wp_orB, wp_andV, wp_orV, wp_notV, wp_ifE, wp_drop, wp_retM, wp_retN, fr_v, fr_un, fr_ow, pl_v, pl_un, fr_pl, frO_ap, plO_ap, slot_f, slot_t, wp_put, wp_setM, wp_parM, puts_nil, puts_cons, kt_ap, wt_N, wts_nil, wts_cons, wt_T, wp_setT, wp_tg, wp_appU, kap_ap, isL_ap, kapp_ap, wp_appE, wp_setP, kset_ap, wp_setIx, wp_setQ, wp_useF, kcall_ap, kpb_ap, kpe_ap, wp_callM, kargs_ap, argsOf_nil, argsOf_cons, argOf_d, argOf_pk, karg_v, karg_ow, pks_nil, pks_d, pks_pk, kpks_ow, kpks_v, nodupN_nil, nodupN_one, nodupN_cons, pb_nil, pb_d, pb_dU, pb_pk, kpbk_ap, kr_rt, kr_nx, kre_ap, wp_runB, back_nil, back_v, back_ow, wp_forM, wp_srcV, wp_srcA, kfor_nx, kfor_ct, kfor_bk, kfor_rt, wp_forGo_nil, wb_nil, npO_ap, wb_cons, wp_lcM, klc_ap, wp_lcB, kel_ap, kco_t, kco_f, kco_d, List.getElem?_cons_zero, List.getElem?_cons_succ, List.set_cons_zero, List.set_cons_succ, List.length_cons, List.length_nil, List.length_append, List.replicate_succ, List.replicate_zero, List.cons_append, List.nil_append, if_true, if_false, ite_true, ite_false, Bool.false_eq_true, true_and, and_true, decide_eq_true_eq, Bool.not_true, Bool.not_false, Bool.not_eq_true', decide_eq_false_iff_not, reduceIte, reduceCtorEq, Nat.zero_add, Nat.reduceAdd, Nat.reduceSub, List.contains_nil, List.contains_cons, Bool.and_true, Bool.or_false, Bool.and_self, beq_self_eq_true, Nat.reduceBEq, Nat.reduceEqDiff, Nat.succ_eq_add_one, rst, List.getD_cons_zero, List.getD_cons_succ, isF, lenF, listF, tupleF, o_int, o_inti, o_addl, o_addt, o_mulb, absF, minF, maxF, sumF, seqOf, eq_self, decide_true, decide_false, not_true_eq_false, not_false_eq_true, Bool.or_true, Bool.true_or, Bool.false_or, Bool.true_and, Bool.false_and, Bool.and_false, Option.map_some, Option.map_none, bne_f, bne_t, dec_not, fr_pl, nums_int, List.length_map, o_lt, o_le, o_gt, o_ge, o_add, o_sub, o_mul, o_div, o_mod, o_pow, o_rng1, o_rng2, at_0, at_1, at_2, at_3, at_4, at_5, at_nat, ix_0, ix_1, ix_2, ix_3, idx_l, idx_t, o_eq, o_eqb, small_nil, small_c1, small_c2, small_c3, small_c4, small_c5, small_c6, o_isi, ty_int_non, ty_int_bl, ty_int_int, ty_int_str, ty_int_tup, ty_int_lst, ty_int_dic, ty_int_set, ty_bool_non, ty_bool_bl, ty_bool_int, ty_bool_str, ty_bool_tup, ty_bool_lst, ty_bool_dic, ty_bool_set, ty_str_non, ty_str_bl, ty_str_int, ty_str_str, ty_str_tup, ty_str_lst, ty_str_dic, ty_str_set, ty_tuple_non, ty_tuple_bl, ty_tuple_int, ty_tuple_str, ty_tuple_tup, ty_tuple_lst, ty_tuple_dic, ty_tuple_set, ty_list_non, ty_list_bl, ty_list_int, ty_list_str, ty_list_tup, ty_list_lst, ty_list_dic, ty_list_set, ty_dict_non, ty_dict_bl, ty_dict_int, ty_dict_str, ty_dict_tup, ty_dict_lst, ty_dict_dic, ty_dict_set, ty_set_non, ty_set_bl, ty_set_int, ty_set_str, ty_set_tup, ty_set_lst, ty_set_dic, ty_set_set, hx4, due_step (show j ≤ w + s by omega)]
      refine ⟨?_, divOk_of (by omega) (by omega), _, rfl, rfl⟩
      have h1 : t * bin (w + s) j ≤ 2 ^ 200 := by
        have : (2 : Nat) ^ 200 = 2 ^ 160 * 2 ^ 40 := by decide
        rw [this]
        exact Nat.mul_le_mul a3 (Nat.le_trans (bin_le _ _) (Nat.pow_le_pow_right (by decide) (by omega)))
      have := mulOk_nat h1 (by decide) (sm1500 (by omega : w + s - j ≤ 1000000))
      rw [Int.ofNat_sub (by omega)] at this
      exact this
    · obtain ⟨x4, rfl, hx4⟩ := h
      rw [intsF_len, Int.toNat_natCast]
      simp only [kfor_nx]
      refine ⟨w + s, t * bin (w + s) s, q ++ [w + s], x4, _, by rw [List.map_append]; rfl, hx4, rfl, hm, a4, ?_, ?_⟩
      · rw [List.append_assoc]; exact hq
      · simp only [List.length_append, List.length_cons, List.length_nil]; omega
  obtain ⟨w, t, q, x4, x14, rfl, hx4, hx14, hm, hs, hq, hc⟩ := h
  have hm : t = mixA 0 1 l := hm
  have hq : q = sumsA 0 l := by simpa [sumsA] using hq
  simp only [wp_ret, wp_stuck, wp_bnd, kb_ap, wp_lift, wo_some, wo_none, wo_ite, wo_map, wp_ite, ks_nx, ks_rt, ks_bk, ks_ct, wp_seq, wp_pk, kpk_v, kpk_ow, wp_rd, krd_v, krd_ow, wp_mv, kmv_v, kmv_ow, wp_cst, wp_use2, k2_ap, wp_op2, wp_use1, k1_ap, wp_op1, wp_useN, kN_ap, wp_opN, rsv_d, rsv_pk, ksv_v, ksv_ow, rsvs_nil, rsvs_cons, kcons_ap, wp_osN, wp_osC, wp_lsN, wp_lsC, wp_fsN, wp_fsC, wp_opd, wp_frz, wp_tupM, wp_lstM, wp_tst, ktst_bl, wp_notB, wp_andB, wp_orB, wp_andV, wp_orV, wp_notV, wp_ifE, wp_drop, wp_retM, wp_retN, fr_v, fr_un, fr_ow, pl_v, pl_un, fr_pl, frO_ap, plO_ap, slot_f, slot_t, wp_put, wp_setM, wp_parM, puts_nil, puts_cons, kt_ap, wt_N, wts_nil, wts_cons, wt_T, wp_setT, wp_tg, wp_appU, kap_ap, isL_ap, kapp_ap, wp_appE, wp_setP, kset_ap, wp_setIx, wp_setQ, wp_useF, kcall_ap, kpb_ap, kpe_ap, wp_callM, kargs_ap, argsOf_nil, argsOf_cons, argOf_d, argOf_pk, karg_v, karg_ow, pks_nil, pks_d, pks_pk, kpks_ow, kpks_v, nodupN_nil, nodupN_one, nodupN_cons, pb_nil, pb_d, pb_dU, pb_pk, kpbk_ap, kr_rt, kr_nx, kre_ap, wp_runB, back_nil, back_v, back_ow, wp_forM, wp_srcV, wp_srcA, kfor_nx, kfor_ct, kfor_bk, kfor_rt, wp_forGo_nil, wb_nil, npO_ap, wb_cons, wp_lcM, klc_ap, wp_lcB, kel_ap, kco_t, kco_f, kco_d, List.getElem?_cons_zero, List.getElem?_cons_succ, List.set_cons_zero, List.set_cons_succ, List.length_cons, List.length_nil, List.length_append, List.replicate_succ, List.replicate_zero, List.cons_append, List.nil_append, if_true, if_false, ite_true, ite_false, Bool.false_eq_true, true_and, and_true, decide_eq_true_eq, Bool.not_true, Bool.not_false, Bool.not_eq_true', decide_eq_false_iff_not, reduceIte, reduceCtorEq, Nat.zero_add, Nat.reduceAdd, Nat.reduceSub, List.contains_nil, List.contains_cons, Bool.and_true, Bool.or_false, Bool.and_self, beq_self_eq_true, Nat.reduceBEq, Nat.reduceEqDiff, Nat.succ_eq_add_one, rst, List.getD_cons_zero, List.getD_cons_succ, isF, lenF, listF, tupleF, o_int, o_inti, o_addl, o_addt, o_mulb, absF, minF, maxF, sumF, seqOf, eq_self, decide_true, decide_false, not_true_eq_false, not_false_eq_true, Bool.or_true, Bool.true_or, Bool.false_or, Bool.true_and, Bool.false_and, Bool.and_false, Option.map_some, Option.map_none, bne_f, bne_t, dec_not, fr_pl, nums_int, List.length_map, o_lt, o_le, o_gt, o_ge, o_add, o_sub, o_mul, o_div, o_mod, o_pow, o_rng1, o_rng2, at_0, at_1, at_2, at_3, at_4, at_5, at_nat, ix_0, ix_1, ix_2, ix_3, idx_l, idx_t, o_eq, o_eqb, small_nil, small_c1, small_c2, small_c3, small_c4, small_c5, small_c6, o_isi, ty_int_non, ty_int_bl, ty_int_int, ty_int_str, ty_int_tup, ty_int_lst, ty_int_dic, ty_int_set, ty_bool_non, ty_bool_bl, ty_bool_int, ty_bool_str, ty_bool_tup, ty_bool_lst, ty_bool_dic, ty_bool_set, ty_str_non, ty_str_bl, ty_str_int, ty_str_str, ty_str_tup, ty_str_lst, ty_str_dic, ty_str_set, ty_tuple_non, ty_tuple_bl, ty_tuple_int, ty_tuple_str, ty_tuple_tup, ty_tuple_lst, ty_tuple_dic, ty_tuple_set, ty_list_non, ty_list_bl, ty_list_int, ty_list_str, ty_list_tup, ty_list_lst, ty_list_dic, ty_list_set, ty_dict_non, ty_dict_bl, ty_dict_int, ty_dict_str, ty_dict_tup, ty_dict_lst, ty_dict_dic, ty_dict_set, ty_set_non, ty_set_bl, ty_set_int, ty_set_str, ty_set_tup, ty_set_lst, ty_set_dic, ty_set_set]
  refine wp_mixtures hl5 h8 ?_
  simp only [wp_ret, wp_stuck, wp_bnd, kb_ap, wp_lift, wo_some, wo_none, wo_ite, wo_map, wp_ite, ks_nx, ks_rt, ks_bk, ks_ct, wp_seq, wp_pk, kpk_v, kpk_ow, wp_rd, krd_v, krd_ow, wp_mv, kmv_v, kmv_ow, wp_cst, wp_use2, k2_ap, wp_op2, wp_use1, k1_ap, wp_op1, wp_useN, kN_ap, wp_opN, rsv_d, rsv_pk, ksv_v, ksv_ow, rsvs_nil, rsvs_cons, kcons_ap, wp_osN, wp_osC, wp_lsN, wp_lsC, wp_fsN, wp_fsC, wp_opd, wp_frz, wp_tupM, wp_lstM, wp_tst, ktst_bl, wp_notB, wp_andB, wp_orB, wp_andV, wp_orV, wp_notV, wp_ifE, wp_drop, wp_retM, wp_retN, fr_v, fr_un, fr_ow, pl_v, pl_un, fr_pl, frO_ap, plO_ap, slot_f, slot_t, wp_put, wp_setM, wp_parM, puts_nil, puts_cons, kt_ap, wt_N, wts_nil, wts_cons, wt_T, wp_setT, wp_tg, wp_appU, kap_ap, isL_ap, kapp_ap, wp_appE, wp_setP, kset_ap, wp_setIx, wp_setQ, wp_useF, kcall_ap, kpb_ap, kpe_ap, wp_callM, kargs_ap, argsOf_nil, argsOf_cons, argOf_d, argOf_pk, karg_v, karg_ow, pks_nil, pks_d, pks_pk, kpks_ow, kpks_v, nodupN_nil, nodupN_one, nodupN_cons, pb_nil, pb_d, pb_dU, pb_pk, kpbk_ap, kr_rt, kr_nx, kre_ap, wp_runB, back_nil, back_v, back_ow, wp_forM, wp_srcV, wp_srcA, kfor_nx, kfor_ct, kfor_bk, kfor_rt, wp_forGo_nil, wb_nil, npO_ap, wb_cons, wp_lcM, klc_ap, wp_lcB, kel_ap, kco_t, kco_f, kco_d, List.getElem?_cons_zero, List.getElem?_cons_succ, List.set_cons_zero, List.set_cons_succ, List.length_cons, List.length_nil, List.length_append, List.replicate_succ, List.replicate_zero, List.cons_append, List.nil_append, if_true, if_false, ite_true, ite_false, Bool.false_eq_true, true_and, and_true, decide_eq_true_eq, Bool.not_true, Bool.not_false, Bool.not_eq_true', decide_eq_false_iff_not, reduceIte, reduceCtorEq, Nat.zero_add, Nat.reduceAdd, Nat.reduceSub, List.contains_nil, List.contains_cons, Bool.and_true, Bool.or_false, Bool.and_self, beq_self_eq_true, Nat.reduceBEq, Nat.reduceEqDiff, Nat.succ_eq_add_one, rst, List.getD_cons_zero, List.getD_cons_succ, isF, lenF, listF, tupleF, o_int, o_inti, o_addl, o_addt, o_mulb, absF, minF, maxF, sumF, seqOf, eq_self, decide_true, decide_false, not_true_eq_false, not_false_eq_true, Bool.or_true, Bool.true_or, Bool.false_or, Bool.true_and, Bool.false_and, Bool.and_false, Option.map_some, Option.map_none, bne_f, bne_t, dec_not, fr_pl, nums_int, List.length_map, o_lt, o_le, o_gt, o_ge, o_add, o_sub, o_mul, o_div, o_mod, o_pow, o_rng1, o_rng2, at_0, at_1, at_2, at_3, at_4, at_5, at_nat, ix_0, ix_1, ix_2, ix_3, idx_l, idx_t, o_eq, o_eqb, small_nil, small_c1, small_c2, small_c3, small_c4, small_c5, small_c6, o_isi, ty_int_non, ty_int_bl, ty_int_int, ty_int_str, ty_int_tup, ty_int_lst, ty_int_dic, ty_int_set, ty_bool_non, ty_bool_bl, ty_bool_int, ty_bool_str, ty_bool_tup, ty_bool_lst, ty_bool_dic, ty_bool_set, ty_str_non, ty_str_bl, ty_str_int, ty_str_str, ty_str_tup, ty_str_lst, ty_str_dic, ty_str_set, ty_tuple_non, ty_tuple_bl, ty_tuple_int, ty_tuple_str, ty_tuple_tup, ty_tuple_lst, ty_tuple_dic, ty_tuple_set, ty_list_non, ty_list_bl, ty_list_int, ty_list_str, ty_list_tup, ty_list_lst, ty_list_dic, ty_list_set, ty_dict_non, ty_dict_bl, ty_dict_int, ty_dict_str, ty_dict_tup, ty_dict_lst, ty_dict_dic, ty_dict_set, ty_set_non, ty_set_bl, ty_set_int, ty_set_str, ty_set_tup, ty_set_lst, ty_set_dic, ty_set_set]
  refine wp_sameI (by rw [hm]) plain_int ?_
  simp only [wp_ret, wp_stuck, wp_bnd, kb_ap, wp_lift, wo_some, wo_none, wo_ite, wo_map, wp_ite, ks_nx, ks_rt, ks_bk, ks_ct, wp_seq, wp_pk, kpk_v, kpk_ow, wp_rd, krd_v, krd_ow, wp_mv, kmv_v, kmv_ow, wp_cst, wp_use2, k2_ap, wp_op2, wp_use1, k1_ap, wp_op1, wp_useN, kN_ap, wp_opN, rsv_d, rsv_pk, ksv_v, ksv_ow, rsvs_nil, rsvs_cons, kcons_ap, wp_osN, wp_osC, wp_lsN, wp_lsC, wp_fsN, wp_fsC, wp_opd, wp_frz, wp_tupM, wp_lstM, wp_tst, ktst_bl, wp_notB, wp_andB, wp_orB, wp_andV, wp_orV, wp_notV, wp_ifE, wp_drop, wp_retM, wp_retN, fr_v, fr_un, fr_ow, pl_v, pl_un, fr_pl, frO_ap, plO_ap, slot_f, slot_t, wp_put, wp_setM, wp_parM, puts_nil, puts_cons, kt_ap, wt_N, wts_nil, wts_cons, wt_T, wp_setT, wp_tg, wp_appU, kap_ap, isL_ap, kapp_ap, wp_appE, wp_setP, kset_ap, wp_setIx, wp_setQ, wp_useF, kcall_ap, kpb_ap, kpe_ap, wp_callM, kargs_ap, argsOf_nil, argsOf_cons, argOf_d, argOf_pk, karg_v, karg_ow, pks_nil, pks_d, pks_pk, kpks_ow, kpks_v, nodupN_nil, nodupN_one, nodupN_cons, pb_nil, pb_d, pb_dU, pb_pk, kpbk_ap, kr_rt, kr_nx, kre_ap, wp_runB, back_nil, back_v, back_ow, wp_forM, wp_srcV, wp_srcA, kfor_nx, kfor_ct, kfor_bk, kfor_rt, wp_forGo_nil, wb_nil, npO_ap, wb_cons, wp_lcM, klc_ap, wp_lcB, kel_ap, kco_t, kco_f, kco_d, List.getElem?_cons_zero, List.getElem?_cons_succ, List.set_cons_zero, List.set_cons_succ, List.length_cons, List.length_nil, List.length_append, List.replicate_succ, List.replicate_zero, List.cons_append, List.nil_append, if_true, if_false, ite_true, ite_false, Bool.false_eq_true, true_and, and_true, decide_eq_true_eq, Bool.not_true, Bool.not_false, Bool.not_eq_true', decide_eq_false_iff_not, reduceIte, reduceCtorEq, Nat.zero_add, Nat.reduceAdd, Nat.reduceSub, List.contains_nil, List.contains_cons, Bool.and_true, Bool.or_false, Bool.and_self, beq_self_eq_true, Nat.reduceBEq, Nat.reduceEqDiff, Nat.succ_eq_add_one, rst, List.getD_cons_zero, List.getD_cons_succ, isF, lenF, listF, tupleF, o_int, o_inti, o_addl, o_addt, o_mulb, absF, minF, maxF, sumF, seqOf, eq_self, decide_true, decide_false, not_true_eq_false, not_false_eq_true, Bool.or_true, Bool.true_or, Bool.false_or, Bool.true_and, Bool.false_and, Bool.and_false, Option.map_some, Option.map_none, bne_f, bne_t, dec_not, fr_pl, nums_int, List.length_map, o_lt, o_le, o_gt, o_ge, o_add, o_sub, o_mul, o_div, o_mod, o_pow, o_rng1, o_rng2, at_0, at_1, at_2, at_3, at_4, at_5, at_nat, ix_0, ix_1, ix_2, ix_3, idx_l, idx_t, o_eq, o_eqb, small_nil, small_c1, small_c2, small_c3, small_c4, small_c5, small_c6, o_isi, ty_int_non, ty_int_bl, ty_int_int, ty_int_str, ty_int_tup, ty_int_lst, ty_int_dic, ty_int_set, ty_bool_non, ty_bool_bl, ty_bool_int, ty_bool_str, ty_bool_tup, ty_bool_lst, ty_bool_dic, ty_bool_set, ty_str_non, ty_str_bl, ty_str_int, ty_str_str, ty_str_tup, ty_str_lst, ty_str_dic, ty_str_set, ty_tuple_non, ty_tuple_bl, ty_tuple_int, ty_tuple_str, ty_tuple_tup, ty_tuple_lst, ty_tuple_dic, ty_tuple_set, ty_list_non, ty_list_bl, ty_list_int, ty_list_str, ty_list_tup, ty_list_lst, ty_list_dic, ty_list_set, ty_dict_non, ty_dict_bl, ty_dict_int, ty_dict_str, ty_dict_tup, ty_dict_lst, ty_dict_dic, ty_dict_set, ty_set_non, ty_set_bl, ty_set_int, ty_set_str, ty_set_tup, ty_set_lst, ty_set_dic, ty_set_set]
  refine wp_rises hl5 ?_
  simp only [wp_ret, wp_stuck, wp_bnd, kb_ap, wp_lift, wo_some, wo_none, wo_ite, wo_map, wp_ite, ks_nx, ks_rt, ks_bk, ks_ct, wp_seq, wp_pk, kpk_v, kpk_ow, wp_rd, krd_v, krd_ow, wp_mv, kmv_v, kmv_ow, wp_cst, wp_use2, k2_ap, wp_op2, wp_use1, k1_ap, wp_op1, wp_useN, kN_ap, wp_opN, rsv_d, rsv_pk, ksv_v, ksv_ow, rsvs_nil, rsvs_cons, kcons_ap, wp_osN, wp_osC, wp_lsN, wp_lsC, wp_fsN, wp_fsC, wp_opd, wp_frz, wp_tupM, wp_lstM, wp_tst, ktst_bl, wp_notB, wp_andB, wp_orB, wp_andV, wp_orV, wp_notV, wp_ifE, wp_drop, wp_retM, wp_retN, fr_v, fr_un, fr_ow, pl_v, pl_un, fr_pl, frO_ap, plO_ap, slot_f, slot_t, wp_put, wp_setM, wp_parM, puts_nil, puts_cons, kt_ap, wt_N, wts_nil, wts_cons, wt_T, wp_setT, wp_tg, wp_appU, kap_ap, isL_ap, kapp_ap, wp_appE, wp_setP, kset_ap, wp_setIx, wp_setQ, wp_useF, kcall_ap, kpb_ap, kpe_ap, wp_callM, kargs_ap, argsOf_nil, argsOf_cons, argOf_d, argOf_pk, karg_v, karg_ow, pks_nil, pks_d, pks_pk, kpks_ow, kpks_v, nodupN_nil, nodupN_one, nodupN_cons, pb_nil, pb_d, pb_dU, pb_pk, kpbk_ap, kr_rt, kr_nx, kre_ap, wp_runB, back_nil, back_v, back_ow, wp_forM, wp_srcV, wp_srcA, kfor_nx, kfor_ct, kfor_bk, kfor_rt, wp_forGo_nil, wb_nil, npO_ap, wb_cons, wp_lcM, klc_ap, wp_lcB, kel_ap, kco_t, kco_f, kco_d, List.getElem?_cons_zero, List.getElem?_cons_succ, List.set_cons_zero, List.set_cons_succ, List.length_cons, List.length_nil, List.length_append, List.replicate_succ, List.replicate_zero, List.cons_append, List.nil_append, if_true, if_false, ite_true, ite_false, Bool.false_eq_true, true_and, and_true, decide_eq_true_eq, Bool.not_true, Bool.not_false, Bool.not_eq_true', decide_eq_false_iff_not, reduceIte, reduceCtorEq, Nat.zero_add, Nat.reduceAdd, Nat.reduceSub, List.contains_nil, List.contains_cons, Bool.and_true, Bool.or_false, Bool.and_self, beq_self_eq_true, Nat.reduceBEq, Nat.reduceEqDiff, Nat.succ_eq_add_one, rst, List.getD_cons_zero, List.getD_cons_succ, isF, lenF, listF, tupleF, o_int, o_inti, o_addl, o_addt, o_mulb, absF, minF, maxF, sumF, seqOf, eq_self, decide_true, decide_false, not_true_eq_false, not_false_eq_true, Bool.or_true, Bool.true_or, Bool.false_or, Bool.true_and, Bool.false_and, Bool.and_false, Option.map_some, Option.map_none, bne_f, bne_t, dec_not, fr_pl, nums_int, List.length_map, o_lt, o_le, o_gt, o_ge, o_add, o_sub, o_mul, o_div, o_mod, o_pow, o_rng1, o_rng2, at_0, at_1, at_2, at_3, at_4, at_5, at_nat, ix_0, ix_1, ix_2, ix_3, idx_l, idx_t, o_eq, o_eqb, small_nil, small_c1, small_c2, small_c3, small_c4, small_c5, small_c6, o_isi, ty_int_non, ty_int_bl, ty_int_int, ty_int_str, ty_int_tup, ty_int_lst, ty_int_dic, ty_int_set, ty_bool_non, ty_bool_bl, ty_bool_int, ty_bool_str, ty_bool_tup, ty_bool_lst, ty_bool_dic, ty_bool_set, ty_str_non, ty_str_bl, ty_str_int, ty_str_str, ty_str_tup, ty_str_lst, ty_str_dic, ty_str_set, ty_tuple_non, ty_tuple_bl, ty_tuple_int, ty_tuple_str, ty_tuple_tup, ty_tuple_lst, ty_tuple_dic, ty_tuple_set, ty_list_non, ty_list_bl, ty_list_int, ty_list_str, ty_list_tup, ty_list_lst, ty_list_dic, ty_list_set, ty_dict_non, ty_dict_bl, ty_dict_int, ty_dict_str, ty_dict_tup, ty_dict_lst, ty_dict_dic, ty_dict_set, ty_set_non, ty_set_bl, ty_set_int, ty_set_str, ty_set_tup, ty_set_lst, ty_set_dic, ty_set_set]
  refine wp_sameI (by rw [hq]) (plain_nats _) ?_
  simp only [wp_ret, wp_stuck, wp_bnd, kb_ap, wp_lift, wo_some, wo_none, wo_ite, wo_map, wp_ite, ks_nx, ks_rt, ks_bk, ks_ct, wp_seq, wp_pk, kpk_v, kpk_ow, wp_rd, krd_v, krd_ow, wp_mv, kmv_v, kmv_ow, wp_cst, wp_use2, k2_ap, wp_op2, wp_use1, k1_ap, wp_op1, wp_useN, kN_ap, wp_opN, rsv_d, rsv_pk, ksv_v, ksv_ow, rsvs_nil, rsvs_cons, kcons_ap, wp_osN, wp_osC, wp_lsN, wp_lsC, wp_fsN, wp_fsC, wp_opd, wp_frz, wp_tupM, wp_lstM, wp_tst, ktst_bl, wp_notB, wp_andB, wp_orB, wp_andV, wp_orV, wp_notV, wp_ifE, wp_drop, wp_retM, wp_retN, fr_v, fr_un, fr_ow, pl_v, pl_un, fr_pl, frO_ap, plO_ap, slot_f, slot_t, wp_put, wp_setM, wp_parM, puts_nil, puts_cons, kt_ap, wt_N, wts_nil, wts_cons, wt_T, wp_setT, wp_tg, wp_appU, kap_ap, isL_ap, kapp_ap, wp_appE, wp_setP, kset_ap, wp_setIx, wp_setQ, wp_useF, kcall_ap, kpb_ap, kpe_ap, wp_callM, kargs_ap, argsOf_nil, argsOf_cons, argOf_d, argOf_pk, karg_v, karg_ow, pks_nil, pks_d, pks_pk, kpks_ow, kpks_v, nodupN_nil, nodupN_one, nodupN_cons, pb_nil, pb_d, pb_dU, pb_pk, kpbk_ap, kr_rt, kr_nx, kre_ap, wp_runB, back_nil, back_v, back_ow, wp_forM, wp_srcV, wp_srcA, kfor_nx, kfor_ct, kfor_bk, kfor_rt, wp_forGo_nil, wb_nil, npO_ap, wb_cons, wp_lcM, klc_ap, wp_lcB, kel_ap, kco_t, kco_f, kco_d, List.getElem?_cons_zero, List.getElem?_cons_succ, List.set_cons_zero, List.set_cons_succ, List.length_cons, List.length_nil, List.length_append, List.replicate_succ, List.replicate_zero, List.cons_append, List.nil_append, if_true, if_false, ite_true, ite_false, Bool.false_eq_true, true_and, and_true, decide_eq_true_eq, Bool.not_true, Bool.not_false, Bool.not_eq_true', decide_eq_false_iff_not, reduceIte, reduceCtorEq, Nat.zero_add, Nat.reduceAdd, Nat.reduceSub, List.contains_nil, List.contains_cons, Bool.and_true, Bool.or_false, Bool.and_self, beq_self_eq_true, Nat.reduceBEq, Nat.reduceEqDiff, Nat.succ_eq_add_one, rst, List.getD_cons_zero, List.getD_cons_succ, isF, lenF, listF, tupleF, o_int, o_inti, o_addl, o_addt, o_mulb, absF, minF, maxF, sumF, seqOf, eq_self, decide_true, decide_false, not_true_eq_false, not_false_eq_true, Bool.or_true, Bool.true_or, Bool.false_or, Bool.true_and, Bool.false_and, Bool.and_false, Option.map_some, Option.map_none, bne_f, bne_t, dec_not, fr_pl, nums_int, List.length_map, o_lt, o_le, o_gt, o_ge, o_add, o_sub, o_mul, o_div, o_mod, o_pow, o_rng1, o_rng2, at_0, at_1, at_2, at_3, at_4, at_5, at_nat, ix_0, ix_1, ix_2, ix_3, idx_l, idx_t, o_eq, o_eqb, small_nil, small_c1, small_c2, small_c3, small_c4, small_c5, small_c6, o_isi, ty_int_non, ty_int_bl, ty_int_int, ty_int_str, ty_int_tup, ty_int_lst, ty_int_dic, ty_int_set, ty_bool_non, ty_bool_bl, ty_bool_int, ty_bool_str, ty_bool_tup, ty_bool_lst, ty_bool_dic, ty_bool_set, ty_str_non, ty_str_bl, ty_str_int, ty_str_str, ty_str_tup, ty_str_lst, ty_str_dic, ty_str_set, ty_tuple_non, ty_tuple_bl, ty_tuple_int, ty_tuple_str, ty_tuple_tup, ty_tuple_lst, ty_tuple_dic, ty_tuple_set, ty_list_non, ty_list_bl, ty_list_int, ty_list_str, ty_list_tup, ty_list_lst, ty_list_dic, ty_list_set, ty_dict_non, ty_dict_bl, ty_dict_int, ty_dict_str, ty_dict_tup, ty_dict_lst, ty_dict_dic, ty_dict_set, ty_set_non, ty_set_bl, ty_set_int, ty_set_str, ty_set_tup, ty_set_lst, ty_set_dic, ty_set_set]
  refine C.wp_draw hb (by decide) (by decide) (by omega) fun s0 b hs0 hb => ?_
  simp only [wp_ret, wp_stuck, wp_bnd, kb_ap, wp_lift, wo_some, wo_none, wo_ite, wo_map, wp_ite, ks_nx, ks_rt, ks_bk, ks_ct, wp_seq, wp_pk, kpk_v, kpk_ow, wp_rd, krd_v, krd_ow, wp_mv, kmv_v, kmv_ow, wp_cst, wp_use2, k2_ap, wp_op2, wp_use1, k1_ap, wp_op1, wp_useN, kN_ap, wp_opN, rsv_d, rsv_pk, ksv_v, ksv_ow, rsvs_nil, rsvs_cons, kcons_ap, wp_osN, wp_osC, wp_lsN, wp_lsC, wp_fsN, wp_fsC, wp_opd, wp_frz, wp_tupM, wp_lstM, wp_tst, ktst_bl, wp_notB, wp_andB, wp_orB, wp_andV, wp_orV, wp_notV, wp_ifE, wp_drop, wp_retM, wp_retN, fr_v, fr_un, fr_ow, pl_v, pl_un, fr_pl, frO_ap, plO_ap, slot_f, slot_t, wp_put, wp_setM, wp_parM, puts_nil, puts_cons, kt_ap, wt_N, wts_nil, wts_cons, wt_T, wp_setT, wp_tg, wp_appU, kap_ap, isL_ap, kapp_ap, wp_appE, wp_setP, kset_ap, wp_setIx, wp_setQ, wp_useF, kcall_ap, kpb_ap, kpe_ap, wp_callM, kargs_ap, argsOf_nil, argsOf_cons, argOf_d, argOf_pk, karg_v, karg_ow, pks_nil, pks_d, pks_pk, kpks_ow, kpks_v, nodupN_nil, nodupN_one, nodupN_cons, pb_nil, pb_d, pb_dU, pb_pk, kpbk_ap, kr_rt, kr_nx, kre_ap, wp_runB, back_nil, back_v, back_ow, wp_forM, wp_srcV, wp_srcA, kfor_nx, kfor_ct, kfor_bk, kfor_rt, wp_forGo_nil, wb_nil, npO_ap, wb_cons, wp_lcM, klc_ap, wp_lcB, kel_ap, kco_t, kco_f, kco_d, List.getElem?_cons_zero, List.getElem?_cons_succ, List.set_cons_zero, List.set_cons_succ, List.length_cons, List.length_nil, List.length_append, List.replicate_succ, List.replicate_zero, List.cons_append, List.nil_append, if_true, if_false, ite_true, ite_false, Bool.false_eq_true, true_and, and_true, decide_eq_true_eq, Bool.not_true, Bool.not_false, Bool.not_eq_true', decide_eq_false_iff_not, reduceIte, reduceCtorEq, Nat.zero_add, Nat.reduceAdd, Nat.reduceSub, List.contains_nil, List.contains_cons, Bool.and_true, Bool.or_false, Bool.and_self, beq_self_eq_true, Nat.reduceBEq, Nat.reduceEqDiff, Nat.succ_eq_add_one, rst, List.getD_cons_zero, List.getD_cons_succ, isF, lenF, listF, tupleF, o_int, o_inti, o_addl, o_addt, o_mulb, absF, minF, maxF, sumF, seqOf, eq_self, decide_true, decide_false, not_true_eq_false, not_false_eq_true, Bool.or_true, Bool.true_or, Bool.false_or, Bool.true_and, Bool.false_and, Bool.and_false, Option.map_some, Option.map_none, bne_f, bne_t, dec_not, fr_pl, nums_int, List.length_map, o_lt, o_le, o_gt, o_ge, o_add, o_sub, o_mul, o_div, o_mod, o_pow, o_rng1, o_rng2, at_0, at_1, at_2, at_3, at_4, at_5, at_nat, ix_0, ix_1, ix_2, ix_3, idx_l, idx_t, o_eq, o_eqb, small_nil, small_c1, small_c2, small_c3, small_c4, small_c5, small_c6, o_isi, ty_int_non, ty_int_bl, ty_int_int, ty_int_str, ty_int_tup, ty_int_lst, ty_int_dic, ty_int_set, ty_bool_non, ty_bool_bl, ty_bool_int, ty_bool_str, ty_bool_tup, ty_bool_lst, ty_bool_dic, ty_bool_set, ty_str_non, ty_str_bl, ty_str_int, ty_str_str, ty_str_tup, ty_str_lst, ty_str_dic, ty_str_set, ty_tuple_non, ty_tuple_bl, ty_tuple_int, ty_tuple_str, ty_tuple_tup, ty_tuple_lst, ty_tuple_dic, ty_tuple_set, ty_list_non, ty_list_bl, ty_list_int, ty_list_str, ty_list_tup, ty_list_lst, ty_list_dic, ty_list_set, ty_dict_non, ty_dict_bl, ty_dict_int, ty_dict_str, ty_dict_tup, ty_dict_lst, ty_dict_dic, ty_dict_set, ty_set_non, ty_set_bl, ty_set_int, ty_set_str, ty_set_tup, ty_set_lst, ty_set_dic, ty_set_set]
  refine C.wp_draw hb (by decide) (by decide) (by omega) fun o b ho hb => ?_
  simp only [wp_ret, wp_stuck, wp_bnd, kb_ap, wp_lift, wo_some, wo_none, wo_ite, wo_map, wp_ite, ks_nx, ks_rt, ks_bk, ks_ct, wp_seq, wp_pk, kpk_v, kpk_ow, wp_rd, krd_v, krd_ow, wp_mv, kmv_v, kmv_ow, wp_cst, wp_use2, k2_ap, wp_op2, wp_use1, k1_ap, wp_op1, wp_useN, kN_ap, wp_opN, rsv_d, rsv_pk, ksv_v, ksv_ow, rsvs_nil, rsvs_cons, kcons_ap, wp_osN, wp_osC, wp_lsN, wp_lsC, wp_fsN, wp_fsC, wp_opd, wp_frz, wp_tupM, wp_lstM, wp_tst, ktst_bl, wp_notB, wp_andB, wp_orB, wp_andV, wp_orV, wp_notV, wp_ifE, wp_drop, wp_retM, wp_retN, fr_v, fr_un, fr_ow, pl_v, pl_un, fr_pl, frO_ap, plO_ap, slot_f, slot_t, wp_put, wp_setM, wp_parM, puts_nil, puts_cons, kt_ap, wt_N, wts_nil, wts_cons, wt_T, wp_setT, wp_tg, wp_appU, kap_ap, isL_ap, kapp_ap, wp_appE, wp_setP, kset_ap, wp_setIx, wp_setQ, wp_useF, kcall_ap, kpb_ap, kpe_ap, wp_callM, kargs_ap, argsOf_nil, argsOf_cons, argOf_d, argOf_pk, karg_v, karg_ow, pks_nil, pks_d, pks_pk, kpks_ow, kpks_v, nodupN_nil, nodupN_one, nodupN_cons, pb_nil, pb_d, pb_dU, pb_pk, kpbk_ap, kr_rt, kr_nx, kre_ap, wp_runB, back_nil, back_v, back_ow, wp_forM, wp_srcV, wp_srcA, kfor_nx, kfor_ct, kfor_bk, kfor_rt, wp_forGo_nil, wb_nil, npO_ap, wb_cons, wp_lcM, klc_ap, wp_lcB, kel_ap, kco_t, kco_f, kco_d, List.getElem?_cons_zero, List.getElem?_cons_succ, List.set_cons_zero, List.set_cons_succ, List.length_cons, List.length_nil, List.length_append, List.replicate_succ, List.replicate_zero, List.cons_append, List.nil_append, if_true, if_false, ite_true, ite_false, Bool.false_eq_true, true_and, and_true, decide_eq_true_eq, Bool.not_true, Bool.not_false, Bool.not_eq_true', decide_eq_false_iff_not, reduceIte, reduceCtorEq, Nat.zero_add, Nat.reduceAdd, Nat.reduceSub, List.contains_nil, List.contains_cons, Bool.and_true, Bool.or_false, Bool.and_self, beq_self_eq_true, Nat.reduceBEq, Nat.reduceEqDiff, Nat.succ_eq_add_one, rst, List.getD_cons_zero, List.getD_cons_succ, isF, lenF, listF, tupleF, o_int, o_inti, o_addl, o_addt, o_mulb, absF, minF, maxF, sumF, seqOf, eq_self, decide_true, decide_false, not_true_eq_false, not_false_eq_true, Bool.or_true, Bool.true_or, Bool.false_or, Bool.true_and, Bool.false_and, Bool.and_false, Option.map_some, Option.map_none, bne_f, bne_t, dec_not, fr_pl, nums_int, List.length_map, o_lt, o_le, o_gt, o_ge, o_add, o_sub, o_mul, o_div, o_mod, o_pow, o_rng1, o_rng2, at_0, at_1, at_2, at_3, at_4, at_5, at_nat, ix_0, ix_1, ix_2, ix_3, idx_l, idx_t, o_eq, o_eqb, small_nil, small_c1, small_c2, small_c3, small_c4, small_c5, small_c6, o_isi, ty_int_non, ty_int_bl, ty_int_int, ty_int_str, ty_int_tup, ty_int_lst, ty_int_dic, ty_int_set, ty_bool_non, ty_bool_bl, ty_bool_int, ty_bool_str, ty_bool_tup, ty_bool_lst, ty_bool_dic, ty_bool_set, ty_str_non, ty_str_bl, ty_str_int, ty_str_str, ty_str_tup, ty_str_lst, ty_str_dic, ty_str_set, ty_tuple_non, ty_tuple_bl, ty_tuple_int, ty_tuple_str, ty_tuple_tup, ty_tuple_lst, ty_tuple_dic, ty_tuple_set, ty_list_non, ty_list_bl, ty_list_int, ty_list_str, ty_list_tup, ty_list_lst, ty_list_dic, ty_list_set, ty_dict_non, ty_dict_bl, ty_dict_int, ty_dict_str, ty_dict_tup, ty_dict_lst, ty_dict_dic, ty_dict_set, ty_set_non, ty_set_bl, ty_set_int, ty_set_str, ty_set_tup, ty_set_lst, ty_set_dic, ty_set_set, hx14]
  obtain ⟨s, hsd⟩ : ∃ s : Nat, s = 1 + s0 := ⟨_, rfl⟩
  rw [show (1 : Int) + (s0 : Int) = (s : Int) from by omega]
  have s1 : 1 ≤ s := by omega
  have s5 : s ≤ 5 := by omega
  have o5 : o ≤ 5 := by omega
  have ck := chk_of s1 s5 o5
  unfold chk chk2 at ck
  simp only [Bool.and_eq_true, beq_iff_eq, List.all_eq_true, List.mem_range] at ck
  obtain ⟨⟨⟨ck1, ck2⟩, ck3⟩, ck4⟩ := ck
  refine wp_rows s1 s5 o5 ?_
  simp only [wp_ret, wp_stuck, wp_bnd, kb_ap, wp_lift, wo_some, wo_none, wo_ite, wo_map, wp_ite, ks_nx, ks_rt, ks_bk, ks_ct, wp_seq, wp_pk, kpk_v, kpk_ow, wp_rd, krd_v, krd_ow, wp_mv, kmv_v, kmv_ow, wp_cst, wp_use2, k2_ap, wp_op2, wp_use1, k1_ap, wp_op1, wp_useN, kN_ap, wp_opN, rsv_d, rsv_pk, ksv_v, ksv_ow, rsvs_nil, rsvs_cons, kcons_ap, wp_osN, wp_osC, wp_lsN, wp_lsC, wp_fsN, wp_fsC, wp_opd, wp_frz, wp_tupM, wp_lstM, wp_tst, ktst_bl, wp_notB, wp_andB, wp_orB, wp_andV, wp_orV, wp_notV, wp_ifE, wp_drop, wp_retM, wp_retN, fr_v, fr_un, fr_ow, pl_v, pl_un, fr_pl, frO_ap, plO_ap, slot_f, slot_t, wp_put, wp_setM, wp_parM, puts_nil, puts_cons, kt_ap, wt_N, wts_nil, wts_cons, wt_T, wp_setT, wp_tg, wp_appU, kap_ap, isL_ap, kapp_ap, wp_appE, wp_setP, kset_ap, wp_setIx, wp_setQ, wp_useF, kcall_ap, kpb_ap, kpe_ap, wp_callM, kargs_ap, argsOf_nil, argsOf_cons, argOf_d, argOf_pk, karg_v, karg_ow, pks_nil, pks_d, pks_pk, kpks_ow, kpks_v, nodupN_nil, nodupN_one, nodupN_cons, pb_nil, pb_d, pb_dU, pb_pk, kpbk_ap, kr_rt, kr_nx, kre_ap, wp_runB, back_nil, back_v, back_ow, wp_forM, wp_srcV, wp_srcA, kfor_nx, kfor_ct, kfor_bk, kfor_rt, wp_forGo_nil, wb_nil, npO_ap, wb_cons, wp_lcM, klc_ap, wp_lcB, kel_ap, kco_t, kco_f, kco_d, List.getElem?_cons_zero, List.getElem?_cons_succ, List.set_cons_zero, List.set_cons_succ, List.length_cons, List.length_nil, List.length_append, List.replicate_succ, List.replicate_zero, List.cons_append, List.nil_append, if_true, if_false, ite_true, ite_false, Bool.false_eq_true, true_and, and_true, decide_eq_true_eq, Bool.not_true, Bool.not_false, Bool.not_eq_true', decide_eq_false_iff_not, reduceIte, reduceCtorEq, Nat.zero_add, Nat.reduceAdd, Nat.reduceSub, List.contains_nil, List.contains_cons, Bool.and_true, Bool.or_false, Bool.and_self, beq_self_eq_true, Nat.reduceBEq, Nat.reduceEqDiff, Nat.succ_eq_add_one, rst, List.getD_cons_zero, List.getD_cons_succ, isF, lenF, listF, tupleF, o_int, o_inti, o_addl, o_addt, o_mulb, absF, minF, maxF, sumF, seqOf, eq_self, decide_true, decide_false, not_true_eq_false, not_false_eq_true, Bool.or_true, Bool.true_or, Bool.false_or, Bool.true_and, Bool.false_and, Bool.and_false, Option.map_some, Option.map_none, bne_f, bne_t, dec_not, fr_pl, nums_int, List.length_map, o_lt, o_le, o_gt, o_ge, o_add, o_sub, o_mul, o_div, o_mod, o_pow, o_rng1, o_rng2, at_0, at_1, at_2, at_3, at_4, at_5, at_nat, ix_0, ix_1, ix_2, ix_3, idx_l, idx_t, o_eq, o_eqb, small_nil, small_c1, small_c2, small_c3, small_c4, small_c5, small_c6, o_isi, ty_int_non, ty_int_bl, ty_int_int, ty_int_str, ty_int_tup, ty_int_lst, ty_int_dic, ty_int_set, ty_bool_non, ty_bool_bl, ty_bool_int, ty_bool_str, ty_bool_tup, ty_bool_lst, ty_bool_dic, ty_bool_set, ty_str_non, ty_str_bl, ty_str_int, ty_str_str, ty_str_tup, ty_str_lst, ty_str_dic, ty_str_set, ty_tuple_non, ty_tuple_bl, ty_tuple_int, ty_tuple_str, ty_tuple_tup, ty_tuple_lst, ty_tuple_dic, ty_tuple_set, ty_list_non, ty_list_bl, ty_list_int, ty_list_str, ty_list_tup, ty_list_lst, ty_list_dic, ty_list_set, ty_dict_non, ty_dict_bl, ty_dict_int, ty_dict_str, ty_dict_tup, ty_dict_lst, ty_dict_dic, ty_dict_set, ty_set_non, ty_set_bl, ty_set_int, ty_set_str, ty_set_tup, ty_set_lst, ty_set_dic, ty_set_set]
  refine wp_mixtures (ns := [s, o]) (by simp) (by simp; omega) ?_
  simp only [wp_ret, wp_stuck, wp_bnd, kb_ap, wp_lift, wo_some, wo_none, wo_ite, wo_map, wp_ite, ks_nx, ks_rt, ks_bk, ks_ct, wp_seq, wp_pk, kpk_v, kpk_ow, wp_rd, krd_v, krd_ow, wp_mv, kmv_v, kmv_ow, wp_cst, wp_use2, k2_ap, wp_op2, wp_use1, k1_ap, wp_op1, wp_useN, kN_ap, wp_opN, rsv_d, rsv_pk, ksv_v, ksv_ow, rsvs_nil, rsvs_cons, kcons_ap, wp_osN, wp_osC, wp_lsN, wp_lsC, wp_fsN, wp_fsC, wp_opd, wp_frz, wp_tupM, wp_lstM, wp_tst, ktst_bl, wp_notB, wp_andB, wp_orB, wp_andV, wp_orV, wp_notV, wp_ifE, wp_drop, wp_retM, wp_retN, fr_v, fr_un, fr_ow, pl_v, pl_un, fr_pl, frO_ap, plO_ap, slot_f, slot_t, wp_put, wp_setM, wp_parM, puts_nil, puts_cons, kt_ap, wt_N, wts_nil, wts_cons, wt_T, wp_setT, wp_tg, wp_appU, kap_ap, isL_ap, kapp_ap, wp_appE, wp_setP, kset_ap, wp_setIx, wp_setQ, wp_useF, kcall_ap, kpb_ap, kpe_ap, wp_callM, kargs_ap, argsOf_nil, argsOf_cons, argOf_d, argOf_pk, karg_v, karg_ow, pks_nil, pks_d, pks_pk, kpks_ow, kpks_v, nodupN_nil, nodupN_one, nodupN_cons, pb_nil, pb_d, pb_dU, pb_pk, kpbk_ap, kr_rt, kr_nx, kre_ap, wp_runB, back_nil, back_v, back_ow, wp_forM, wp_srcV, wp_srcA, kfor_nx, kfor_ct, kfor_bk, kfor_rt, wp_forGo_nil, wb_nil, npO_ap, wb_cons, wp_lcM, klc_ap, wp_lcB, kel_ap, kco_t, kco_f, kco_d, List.getElem?_cons_zero, List.getElem?_cons_succ, List.set_cons_zero, List.set_cons_succ, List.length_cons, List.length_nil, List.length_append, List.replicate_succ, List.replicate_zero, List.cons_append, List.nil_append, if_true, if_false, ite_true, ite_false, Bool.false_eq_true, true_and, and_true, decide_eq_true_eq, Bool.not_true, Bool.not_false, Bool.not_eq_true', decide_eq_false_iff_not, reduceIte, reduceCtorEq, Nat.zero_add, Nat.reduceAdd, Nat.reduceSub, List.contains_nil, List.contains_cons, Bool.and_true, Bool.or_false, Bool.and_self, beq_self_eq_true, Nat.reduceBEq, Nat.reduceEqDiff, Nat.succ_eq_add_one, rst, List.getD_cons_zero, List.getD_cons_succ, isF, lenF, listF, tupleF, o_int, o_inti, o_addl, o_addt, o_mulb, absF, minF, maxF, sumF, seqOf, eq_self, decide_true, decide_false, not_true_eq_false, not_false_eq_true, Bool.or_true, Bool.true_or, Bool.false_or, Bool.true_and, Bool.false_and, Bool.and_false, Option.map_some, Option.map_none, bne_f, bne_t, dec_not, fr_pl, nums_int, List.length_map, o_lt, o_le, o_gt, o_ge, o_add, o_sub, o_mul, o_div, o_mod, o_pow, o_rng1, o_rng2, at_0, at_1, at_2, at_3, at_4, at_5, at_nat, ix_0, ix_1, ix_2, ix_3, idx_l, idx_t, o_eq, o_eqb, small_nil, small_c1, small_c2, small_c3, small_c4, small_c5, small_c6, o_isi, ty_int_non, ty_int_bl, ty_int_int, ty_int_str, ty_int_tup, ty_int_lst, ty_int_dic, ty_int_set, ty_bool_non, ty_bool_bl, ty_bool_int, ty_bool_str, ty_bool_tup, ty_bool_lst, ty_bool_dic, ty_bool_set, ty_str_non, ty_str_bl, ty_str_int, ty_str_str, ty_str_tup, ty_str_lst, ty_str_dic, ty_str_set, ty_tuple_non, ty_tuple_bl, ty_tuple_int, ty_tuple_str, ty_tuple_tup, ty_tuple_lst, ty_tuple_dic, ty_tuple_set, ty_list_non, ty_list_bl, ty_list_int, ty_list_str, ty_list_tup, ty_list_lst, ty_list_dic, ty_list_set, ty_dict_non, ty_dict_bl, ty_dict_int, ty_dict_str, ty_dict_tup, ty_dict_lst, ty_dict_dic, ty_dict_set, ty_set_non, ty_set_bl, ty_set_int, ty_set_str, ty_set_tup, ty_set_lst, ty_set_dic, ty_set_set, natD, ck1]
  refine wp_mixtures (ns := [o, s]) (by simp) (by simp; omega) ?_
  simp only [wp_ret, wp_stuck, wp_bnd, kb_ap, wp_lift, wo_some, wo_none, wo_ite, wo_map, wp_ite, ks_nx, ks_rt, ks_bk, ks_ct, wp_seq, wp_pk, kpk_v, kpk_ow, wp_rd, krd_v, krd_ow, wp_mv, kmv_v, kmv_ow, wp_cst, wp_use2, k2_ap, wp_op2, wp_use1, k1_ap, wp_op1, wp_useN, kN_ap, wp_opN, rsv_d, rsv_pk, ksv_v, ksv_ow, rsvs_nil, rsvs_cons, kcons_ap, wp_osN, wp_osC, wp_lsN, wp_lsC, wp_fsN, wp_fsC, wp_opd, wp_frz, wp_tupM, wp_lstM, wp_tst, ktst_bl, wp_notB, wp_andB, wp_orB, wp_andV, wp_orV, wp_notV, wp_ifE, wp_drop, wp_retM, wp_retN, fr_v, fr_un, fr_ow, pl_v, pl_un, fr_pl, frO_ap, plO_ap, slot_f, slot_t, wp_put, wp_setM, wp_parM, puts_nil, puts_cons, kt_ap, wt_N, wts_nil, wts_cons, wt_T, wp_setT, wp_tg, wp_appU, kap_ap, isL_ap, kapp_ap, wp_appE, wp_setP, kset_ap, wp_setIx, wp_setQ, wp_useF, kcall_ap, kpb_ap, kpe_ap, wp_callM, kargs_ap, argsOf_nil, argsOf_cons, argOf_d, argOf_pk, karg_v, karg_ow, pks_nil, pks_d, pks_pk, kpks_ow, kpks_v, nodupN_nil, nodupN_one, nodupN_cons, pb_nil, pb_d, pb_dU, pb_pk, kpbk_ap, kr_rt, kr_nx, kre_ap, wp_runB, back_nil, back_v, back_ow, wp_forM, wp_srcV, wp_srcA, kfor_nx, kfor_ct, kfor_bk, kfor_rt, wp_forGo_nil, wb_nil, npO_ap, wb_cons, wp_lcM, klc_ap, wp_lcB, kel_ap, kco_t, kco_f, kco_d, List.getElem?_cons_zero, List.getElem?_cons_succ, List.set_cons_zero, List.set_cons_succ, List.length_cons, List.length_nil, List.length_append, List.replicate_succ, List.replicate_zero, List.cons_append, List.nil_append, if_true, if_false, ite_true, ite_false, Bool.false_eq_true, true_and, and_true, decide_eq_true_eq, Bool.not_true, Bool.not_false, Bool.not_eq_true', decide_eq_false_iff_not, reduceIte, reduceCtorEq, Nat.zero_add, Nat.reduceAdd, Nat.reduceSub, List.contains_nil, List.contains_cons, Bool.and_true, Bool.or_false, Bool.and_self, beq_self_eq_true, Nat.reduceBEq, Nat.reduceEqDiff, Nat.succ_eq_add_one, rst, List.getD_cons_zero, List.getD_cons_succ, isF, lenF, listF, tupleF, o_int, o_inti, o_addl, o_addt, o_mulb, absF, minF, maxF, sumF, seqOf, eq_self, decide_true, decide_false, not_true_eq_false, not_false_eq_true, Bool.or_true, Bool.true_or, Bool.false_or, Bool.true_and, Bool.false_and, Bool.and_false, Option.map_some, Option.map_none, bne_f, bne_t, dec_not, fr_pl, nums_int, List.length_map, o_lt, o_le, o_gt, o_ge, o_add, o_sub, o_mul, o_div, o_mod, o_pow, o_rng1, o_rng2, at_0, at_1, at_2, at_3, at_4, at_5, at_nat, ix_0, ix_1, ix_2, ix_3, idx_l, idx_t, o_eq, o_eqb, small_nil, small_c1, small_c2, small_c3, small_c4, small_c5, small_c6, o_isi, ty_int_non, ty_int_bl, ty_int_int, ty_int_str, ty_int_tup, ty_int_lst, ty_int_dic, ty_int_set, ty_bool_non, ty_bool_bl, ty_bool_int, ty_bool_str, ty_bool_tup, ty_bool_lst, ty_bool_dic, ty_bool_set, ty_str_non, ty_str_bl, ty_str_int, ty_str_str, ty_str_tup, ty_str_lst, ty_str_dic, ty_str_set, ty_tuple_non, ty_tuple_bl, ty_tuple_int, ty_tuple_str, ty_tuple_tup, ty_tuple_lst, ty_tuple_dic, ty_tuple_set, ty_list_non, ty_list_bl, ty_list_int, ty_list_str, ty_list_tup, ty_list_lst, ty_list_dic, ty_list_set, ty_dict_non, ty_dict_bl, ty_dict_int, ty_dict_str, ty_dict_tup, ty_dict_lst, ty_dict_dic, ty_dict_set, ty_set_non, ty_set_bl, ty_set_int, ty_set_str, ty_set_tup, ty_set_lst, ty_set_dic, ty_set_set, natD, ck2]
  obtain ⟨RS, hRS⟩ : ∃ RS, RS = rowsP (s : Int) (o : Int) (s + o) := ⟨_, rfl⟩
  rw [← hRS] at ck3 ck4 ⊢
  refine ⟨inB_of (by omega) (by omega), inB_of (by omega) (by omega), ?_⟩
  refine wp_for (fun i st => ∃ x17 x18 x19 x20 x21, st = [.v (.lst (ns.map .int)), .ow false (C.boxD b), .v (.int (n : Int)), x3, x4, .ow false (.lst ((rowN n).map natD)), x6, .un, .un, x9, .v (.lst (l.map natD)), .v (.int (w : Int)), .v (.int (t : Int)), .v (.lst (q.map natD)), .v (.int (s : Int)), .v (.int (o : Int)), .v (.lst (RS.map encR)), x17, x18, x19, x20, x21, .un, .un, .un] ∧ pl x17 = true ∧ pl x18 = true ∧ pl x19 = true ∧ pl x20 = true ∧ pl x21 = true) ⟨_, _, _, _, _, rfl, rfl, rfl, rfl, rfl, rfl⟩ (fun p d st e h => ?_) fun st h => ?_
  · obtain ⟨x17, x18, x19, x20, x21, rfl, h17, h18, h19, h20, h21⟩ := h
    obtain ⟨hp, rfl⟩ := intsF_get e
    simp only [wp_ret, wp_stuck, wp_bnd, kb_ap, wp_lift, wo_some, wo_none, wo_ite, wo_map, wp_ite, ks_nx, ks_rt, ks_bk, ks_ct, wp_seq, wp_pk, kpk_v, kpk_ow, wp_rd, krd_v, krd_ow, wp_mv, kmv_v, kmv_ow, wp_cst, wp_use2, k2_ap, wp_op2, wp_use1, k1_ap, wp_op1, wp_useN, kN_ap, wp_opN, rsv_d, rsv_pk, ksv_v, ksv_ow, rsvs_nil, rsvs_cons, kcons_ap, wp_osN, wp_osC, wp_lsN, wp_lsC, wp_fsN, wp_fsC, wp_opd, wp_frz, wp_tupM, wp_lstM, wp_tst, ktst_bl, wp_notB, wp_andB, wp_orB, wp_andV, wp_orV, wp_notV, wp_ifE, wp_drop, wp_retM, wp_retN, fr_v, fr_un, fr_ow, pl_v, pl_un, fr_pl, frO_ap, plO_ap, slot_f, slot_t, wp_put, wp_setM, wp_parM, puts_nil, puts_cons, kt_ap, wt_N, wts_nil, wts_cons, wt_T, wp_setT, wp_tg, wp_appU, kap_ap, isL_ap, kapp_ap, wp_appE, wp_setP, kset_ap, wp_setIx, wp_setQ, wp_useF, kcall_ap, kpb_ap, kpe_ap, wp_callM, kargs_ap, argsOf_nil, argsOf_cons, argOf_d, argOf_pk, karg_v, karg_ow, pks_nil, pks_d, pks_pk, kpks_ow, kpks_v, nodupN_nil, nodupN_one, nodupN_cons, pb_nil, pb_d, pb_dU, pb_pk, kpbk_ap, kr_rt, kr_nx, kre_ap, wp_runB, back_nil, back_v, back_ow, wp_forM, wp_srcV, wp_srcA, kfor_nx, kfor_ct, kfor_bk, kfor_rt, wp_forGo_nil, wb_nil, npO_ap, wb_cons, wp_lcM, klc_ap, wp_lcB, kel_ap, kco_t, kco_f, kco_d, List.getElem?_cons_zero, List.getElem?_cons_succ, List.set_cons_zero, List.set_cons_succ, List.length_cons, List.length_nil, List.length_append, List.replicate_succ, List.replicate_zero, List.cons_append, List.nil_append, if_true, if_false, ite_true, ite_false, Bool.false_eq_true, true_and, and_true, decide_eq_true_eq, Bool.not_true, Bool.not_false, Bool.not_eq_true', decide_eq_false_iff_not, reduceIte, reduceCtorEq, Nat.zero_add, Nat.reduceAdd, Nat.reduceSub, List.contains_nil, List.contains_cons, Bool.and_true, Bool.or_false, Bool.and_self, beq_self_eq_true, Nat.reduceBEq, Nat.reduceEqDiff, Nat.succ_eq_add_one, rst, List.getD_cons_zero, List.getD_cons_succ, isF, lenF, listF, tupleF, o_int, o_inti, o_addl, o_addt, o_mulb, absF, minF, maxF, sumF, seqOf, eq_self, decide_true, decide_false, not_true_eq_false, not_false_eq_true, Bool.or_true, Bool.true_or, Bool.false_or, Bool.true_and, Bool.false_and, Bool.and_false, Option.map_some, Option.map_none, bne_f, bne_t, dec_not, fr_pl, nums_int, List.length_map, o_lt, o_le, o_gt, o_ge, o_add, o_sub, o_mul, o_div, o_mod, o_pow, o_rng1, o_rng2, at_0, at_1, at_2, at_3, at_4, at_5, at_nat, ix_0, ix_1, ix_2, ix_3, idx_l, idx_t, o_eq, o_eqb, small_nil, small_c1, small_c2, small_c3, small_c4, small_c5, small_c6, o_isi, ty_int_non, ty_int_bl, ty_int_int, ty_int_str, ty_int_tup, ty_int_lst, ty_int_dic, ty_int_set, ty_bool_non, ty_bool_bl, ty_bool_int, ty_bool_str, ty_bool_tup, ty_bool_lst, ty_bool_dic, ty_bool_set, ty_str_non, ty_str_bl, ty_str_int, ty_str_str, ty_str_tup, ty_str_lst, ty_str_dic, ty_str_set, ty_tuple_non, ty_tuple_bl, ty_tuple_int, ty_tuple_str, ty_tuple_tup, ty_tuple_lst, ty_tuple_dic, ty_tuple_set, ty_list_non, ty_list_bl, ty_list_int, ty_list_str, ty_list_tup, ty_list_lst, ty_list_dic, ty_list_set, ty_dict_non, ty_dict_bl, ty_dict_int, ty_dict_str, ty_dict_tup, ty_dict_lst, ty_dict_dic, ty_dict_set, ty_set_non, ty_set_bl, ty_set_int, ty_set_str, ty_set_tup, ty_set_lst, ty_set_dic, ty_set_set, h17]
    refine ⟨inB_of (by omega) (by omega), ?_⟩
    refine wp_for (fun i st => ∃ x18 x19 x20 x21, st = [.v (.lst (ns.map .int)), .ow false (C.boxD b), .v (.int (n : Int)), x3, x4, .ow false (.lst ((rowN n).map natD)), x6, .un, .un, x9, .v (.lst (l.map natD)), .v (.int (w : Int)), .v (.int (t : Int)), .v (.lst (q.map natD)), .v (.int (s : Int)), .v (.int (o : Int)), .v (.lst (RS.map encR)), .v (.int (1 + (p : Int))), x18, x19, x20, x21, .un, .un, .un] ∧ pl x18 = true ∧ pl x19 = true ∧ pl x20 = true ∧ pl x21 = true) ⟨_, _, _, _, rfl, h18, h19, h20, h21⟩ (fun bf d st e h => ?_) fun st h => ?_
    · obtain ⟨x18, x19, x20, x21, rfl, h18, h19, h20, h21⟩ := h
      obtain ⟨hbf, rfl⟩ := intsF_get0 e
      simp only [wp_ret, wp_stuck, wp_bnd, kb_ap, wp_lift, wo_some, wo_none, wo_ite, wo_map, wp_ite, ks_nx, ks_rt, ks_bk, ks_ct, wp_seq, wp_pk, kpk_v, kpk_ow, wp_rd, krd_v, krd_ow, wp_mv, kmv_v, kmv_ow, wp_cst, wp_use2, k2_ap, wp_op2, wp_use1, k1_ap, wp_op1, wp_useN, kN_ap, wp_opN, rsv_d, rsv_pk, ksv_v, ksv_ow, rsvs_nil, rsvs_cons, kcons_ap, wp_osN, wp_osC, wp_lsN, wp_lsC, wp_fsN, wp_fsC, wp_opd, wp_frz, wp_tupM, wp_lstM, wp_tst, ktst_bl, wp_notB, wp_andB, wp_orB, wp_andV, wp_orV, wp_notV, wp_ifE, wp_drop, wp_retM, wp_retN, fr_v, fr_un, fr_ow, pl_v, pl_un, fr_pl, frO_ap, plO_ap, slot_f, slot_t, wp_put, wp_setM, wp_parM, puts_nil, puts_cons, kt_ap, wt_N, wts_nil, wts_cons, wt_T, wp_setT, wp_tg, wp_appU, kap_ap, isL_ap, kapp_ap, wp_appE, wp_setP, kset_ap, wp_setIx, wp_setQ, wp_useF, kcall_ap, kpb_ap, kpe_ap, wp_callM, kargs_ap, argsOf_nil, argsOf_cons, argOf_d, argOf_pk, karg_v, karg_ow, pks_nil, pks_d, pks_pk, kpks_ow, kpks_v, nodupN_nil, nodupN_one, nodupN_cons, pb_nil, pb_d, pb_dU, pb_pk, kpbk_ap, kr_rt, kr_nx, kre_ap, wp_runB, back_nil, back_v, back_ow, wp_forM, wp_srcV, wp_srcA, kfor_nx, kfor_ct, kfor_bk, kfor_rt, wp_forGo_nil, wb_nil, npO_ap, wb_cons, wp_lcM, klc_ap, wp_lcB, kel_ap, kco_t, kco_f, kco_d, List.getElem?_cons_zero, List.getElem?_cons_succ, List.set_cons_zero, List.set_cons_succ, List.length_cons, List.length_nil, List.length_append, List.replicate_succ, List.replicate_zero, List.cons_append, List.nil_append, if_true, if_false, ite_true, ite_false, Bool.false_eq_true, true_and, and_true, decide_eq_true_eq, Bool.not_true, Bool.not_false, Bool.not_eq_true', decide_eq_false_iff_not, reduceIte, reduceCtorEq, Nat.zero_add, Nat.reduceAdd, Nat.reduceSub, List.contains_nil, List.contains_cons, Bool.and_true, Bool.or_false, Bool.and_self, beq_self_eq_true, Nat.reduceBEq, Nat.reduceEqDiff, Nat.succ_eq_add_one, rst, List.getD_cons_zero, List.getD_cons_succ, isF, lenF, listF, tupleF, o_int, o_inti, o_addl, o_addt, o_mulb, absF, minF, maxF, sumF, seqOf, eq_self, decide_true, decide_false, not_true_eq_false, not_false_eq_true, Bool.or_true, Bool.true_or, Bool.false_or, Bool.true_and, Bool.false_and, Bool.and_false, Option.map_some, Option.map_none, bne_f, bne_t, dec_not, fr_pl, nums_int, List.length_map, o_lt, o_le, o_gt, o_ge, o_add, o_sub, o_mul, o_div, o_mod, o_pow, o_rng1, o_rng2, at_0, at_1, at_2, at_3, at_4, at_5, at_nat, ix_0, ix_1, ix_2, ix_3, idx_l, idx_t, o_eq, o_eqb, small_nil, small_c1, small_c2, small_c3, small_c4, small_c5, small_c6, o_isi, ty_int_non, ty_int_bl, ty_int_int, ty_int_str, ty_int_tup, ty_int_lst, ty_int_dic, ty_int_set, ty_bool_non, ty_bool_bl, ty_bool_int, ty_bool_str, ty_bool_tup, ty_bool_lst, ty_bool_dic, ty_bool_set, ty_str_non, ty_str_bl, ty_str_int, ty_str_str, ty_str_tup, ty_str_lst, ty_str_dic, ty_str_set, ty_tuple_non, ty_tuple_bl, ty_tuple_int, ty_tuple_str, ty_tuple_tup, ty_tuple_lst, ty_tuple_dic, ty_tuple_set, ty_list_non, ty_list_bl, ty_list_int, ty_list_str, ty_list_tup, ty_list_lst, ty_list_dic, ty_list_set, ty_dict_non, ty_dict_bl, ty_dict_int, ty_dict_str, ty_dict_tup, ty_dict_lst, ty_dict_dic, ty_dict_set, ty_set_non, ty_set_bl, ty_set_int, ty_set_str, ty_set_tup, ty_set_lst, ty_set_dic, ty_set_set, h18, h19]
      refine wp_forL (dec := encR) (fun rem st => ∃ (f : Nat) (x20 x21 : SV), st = [.v (.lst (ns.map .int)), .ow false (C.boxD b), .v (.int (n : Int)), x3, x4, .ow false (.lst ((rowN n).map natD)), x6, .un, .un, x9, .v (.lst (l.map natD)), .v (.int (w : Int)), .v (.int (t : Int)), .v (.lst (q.map natD)), .v (.int (s : Int)), .v (.int (o : Int)), .v (.lst (RS.map encR)), .v (.int (1 + (p : Int))), .v (.int (bf : Int)), .v (.int (f : Int)), x20, x21, .un, .un, .un] ∧ pl x20 = true ∧ pl x21 = true ∧ f + cnt p bf rem = cnt p bf RS ∧ (∀ r, r ∈ rem → (onesAt r).length = s ∧ r.length = s + o))
        (fun r rem st h => ?_) (fun st h => ?_) RS _ ⟨0, _, _, rfl, h20, h21, by omega, fun r h => ⟨ck3 r h, rows_row (s : Int) (o : Int) (s + o) r (hRS ▸ h)⟩⟩
      · obtain ⟨f, x20, x21, rfl, h20, h21, hf, hr⟩ := h
        simp only [wp_ret, wp_stuck, wp_bnd, kb_ap, wp_lift, wo_some, wo_none, wo_ite, wo_map, wp_ite, ks_nx, ks_rt, ks_bk, ks_ct, wp_seq, wp_pk, kpk_v, kpk_ow, wp_rd, krd_v, krd_ow, wp_mv, kmv_v, kmv_ow, wp_cst, wp_use2, k2_ap, wp_op2, wp_use1, k1_ap, wp_op1, wp_useN, kN_ap, wp_opN, rsv_d, rsv_pk, ksv_v, ksv_ow, rsvs_nil, rsvs_cons, kcons_ap, wp_osN, wp_osC, wp_lsN, wp_lsC, wp_fsN, wp_fsC, wp_opd, wp_frz, wp_tupM, wp_lstM, wp_tst, ktst_bl, wp_notB, wp_andB, wp_orB, wp_andV, wp_orV, wp_notV, wp_ifE, wp_drop, wp_retM, wp_retN, fr_v, fr_un, fr_ow, pl_v, pl_un, fr_pl, frO_ap, plO_ap, slot_f, slot_t, wp_put, wp_setM, wp_parM, puts_nil, puts_cons, kt_ap, wt_N, wts_nil, wts_cons, wt_T, wp_setT, wp_tg, wp_appU, kap_ap, isL_ap, kapp_ap, wp_appE, wp_setP, kset_ap, wp_setIx, wp_setQ, wp_useF, kcall_ap, kpb_ap, kpe_ap, wp_callM, kargs_ap, argsOf_nil, argsOf_cons, argOf_d, argOf_pk, karg_v, karg_ow, pks_nil, pks_d, pks_pk, kpks_ow, kpks_v, nodupN_nil, nodupN_one, nodupN_cons, pb_nil, pb_d, pb_dU, pb_pk, kpbk_ap, kr_rt, kr_nx, kre_ap, wp_runB, back_nil, back_v, back_ow, wp_forM, wp_srcV, wp_srcA, kfor_nx, kfor_ct, kfor_bk, kfor_rt, wp_forGo_nil, wb_nil, npO_ap, wb_cons, wp_lcM, klc_ap, wp_lcB, kel_ap, kco_t, kco_f, kco_d, List.getElem?_cons_zero, List.getElem?_cons_succ, List.set_cons_zero, List.set_cons_succ, List.length_cons, List.length_nil, List.length_append, List.replicate_succ, List.replicate_zero, List.cons_append, List.nil_append, if_true, if_false, ite_true, ite_false, Bool.false_eq_true, true_and, and_true, decide_eq_true_eq, Bool.not_true, Bool.not_false, Bool.not_eq_true', decide_eq_false_iff_not, reduceIte, reduceCtorEq, Nat.zero_add, Nat.reduceAdd, Nat.reduceSub, List.contains_nil, List.contains_cons, Bool.and_true, Bool.or_false, Bool.and_self, beq_self_eq_true, Nat.reduceBEq, Nat.reduceEqDiff, Nat.succ_eq_add_one, rst, List.getD_cons_zero, List.getD_cons_succ, isF, lenF, listF, tupleF, o_int, o_inti, o_addl, o_addt, o_mulb, absF, minF, maxF, sumF, seqOf, eq_self, decide_true, decide_false, not_true_eq_false, not_false_eq_true, Bool.or_true, Bool.true_or, Bool.false_or, Bool.true_and, Bool.false_and, Bool.and_false, Option.map_some, Option.map_none, bne_f, bne_t, dec_not, fr_pl, nums_int, List.length_map, o_lt, o_le, o_gt, o_ge, o_add, o_sub, o_mul, o_div, o_mod, o_pow, o_rng1, o_rng2, at_0, at_1, at_2, at_3, at_4, at_5, at_nat, ix_0, ix_1, ix_2, ix_3, idx_l, idx_t, o_eq, o_eqb, small_nil, small_c1, small_c2, small_c3, small_c4, small_c5, small_c6, o_isi, ty_int_non, ty_int_bl, ty_int_int, ty_int_str, ty_int_tup, ty_int_lst, ty_int_dic, ty_int_set, ty_bool_non, ty_bool_bl, ty_bool_int, ty_bool_str, ty_bool_tup, ty_bool_lst, ty_bool_dic, ty_bool_set, ty_str_non, ty_str_bl, ty_str_int, ty_str_str, ty_str_tup, ty_str_lst, ty_str_dic, ty_str_set, ty_tuple_non, ty_tuple_bl, ty_tuple_int, ty_tuple_str, ty_tuple_tup, ty_tuple_lst, ty_tuple_dic, ty_tuple_set, ty_list_non, ty_list_bl, ty_list_int, ty_list_str, ty_list_tup, ty_list_lst, ty_list_dic, ty_list_set, ty_dict_non, ty_dict_bl, ty_dict_int, ty_dict_str, ty_dict_tup, ty_dict_lst, ty_dict_dic, ty_dict_set, ty_set_non, ty_set_bl, ty_set_int, ty_set_str, ty_set_tup, ty_set_lst, ty_set_dic, ty_set_set, h20, h21, encR]
        have hrl := hr r List.mem_cons_self
        refine ⟨inB_of (by omega) (by omega), ?_⟩
        rw [Int.toNat_natCast]
        refine wp_lcS (oneF r) (fun d hd => ?_) ?_
        · obtain ⟨k, hk⟩ := List.getElem?_of_mem hd
          obtain ⟨hk2, rfl⟩ := intsF_get0 hk
          have e1 : (List.map D.int r)[k]? = some (.int (r.getD k 0)) := by
            rw [List.getElem?_map, List.getD_eq_getElem?_getD, List.getElem?_eq_getElem hk2]
            rfl
          simp only [wp_ret, wp_stuck, wp_bnd, kb_ap, wp_lift, wo_some, wo_none, wo_ite, wo_map, wp_ite, ks_nx, ks_rt, ks_bk, ks_ct, wp_seq, wp_pk, kpk_v, kpk_ow, wp_rd, krd_v, krd_ow, wp_mv, kmv_v, kmv_ow, wp_cst, wp_use2, k2_ap, wp_op2, wp_use1, k1_ap, wp_op1, wp_useN, kN_ap, wp_opN, rsv_d, rsv_pk, ksv_v, ksv_ow, rsvs_nil, rsvs_cons, kcons_ap, wp_osN, wp_osC, wp_lsN, wp_lsC, wp_fsN, wp_fsC, wp_opd, wp_frz, wp_tupM, wp_lstM, wp_tst, ktst_bl, wp_notB, wp_andB, wp_orB, wp_andV, wp_orV, wp_notV, wp_ifE, wp_drop, wp_retM, wp_retN, fr_v, fr_un, fr_ow, pl_v, pl_un, fr_pl, frO_ap, plO_ap, slot_f, slot_t, wp_put, wp_setM, wp_parM, puts_nil, puts_cons, kt_ap, wt_N, wts_nil, wts_cons, wt_T, wp_setT, wp_tg, wp_appU, kap_ap, isL_ap, kapp_ap, wp_appE, wp_setP, kset_ap, wp_setIx, wp_setQ, wp_useF, kcall_ap, kpb_ap, kpe_ap, wp_callM, kargs_ap, argsOf_nil, argsOf_cons, argOf_d, argOf_pk, karg_v, karg_ow, pks_nil, pks_d, pks_pk, kpks_ow, kpks_v, nodupN_nil, nodupN_one, nodupN_cons, pb_nil, pb_d, pb_dU, pb_pk, kpbk_ap, kr_rt, kr_nx, kre_ap, wp_runB, back_nil, back_v, back_ow, wp_forM, wp_srcV, wp_srcA, kfor_nx, kfor_ct, kfor_bk, kfor_rt, wp_forGo_nil, wb_nil, npO_ap, wb_cons, wp_lcM, klc_ap, wp_lcB, kel_ap, kco_t, kco_f, kco_d, List.getElem?_cons_zero, List.getElem?_cons_succ, List.set_cons_zero, List.set_cons_succ, List.length_cons, List.length_nil, List.length_append, List.replicate_succ, List.replicate_zero, List.cons_append, List.nil_append, if_true, if_false, ite_true, ite_false, Bool.false_eq_true, true_and, and_true, decide_eq_true_eq, Bool.not_true, Bool.not_false, Bool.not_eq_true', decide_eq_false_iff_not, reduceIte, reduceCtorEq, Nat.zero_add, Nat.reduceAdd, Nat.reduceSub, List.contains_nil, List.contains_cons, Bool.and_true, Bool.or_false, Bool.and_self, beq_self_eq_true, Nat.reduceBEq, Nat.reduceEqDiff, Nat.succ_eq_add_one, rst, List.getD_cons_zero, List.getD_cons_succ, isF, lenF, listF, tupleF, o_int, o_inti, o_addl, o_addt, o_mulb, absF, minF, maxF, sumF, seqOf, eq_self, decide_true, decide_false, not_true_eq_false, not_false_eq_true, Bool.or_true, Bool.true_or, Bool.false_or, Bool.true_and, Bool.false_and, Bool.and_false, Option.map_some, Option.map_none, bne_f, bne_t, dec_not, fr_pl, nums_int, List.length_map, o_lt, o_le, o_gt, o_ge, o_add, o_sub, o_mul, o_div, o_mod, o_pow, o_rng1, o_rng2, at_0, at_1, at_2, at_3, at_4, at_5, at_nat, ix_0, ix_1, ix_2, ix_3, idx_l, idx_t, o_eq, o_eqb, small_nil, small_c1, small_c2, small_c3, small_c4, small_c5, small_c6, o_isi, ty_int_non, ty_int_bl, ty_int_int, ty_int_str, ty_int_tup, ty_int_lst, ty_int_dic, ty_int_set, ty_bool_non, ty_bool_bl, ty_bool_int, ty_bool_str, ty_bool_tup, ty_bool_lst, ty_bool_dic, ty_bool_set, ty_str_non, ty_str_bl, ty_str_int, ty_str_str, ty_str_tup, ty_str_lst, ty_str_dic, ty_str_set, ty_tuple_non, ty_tuple_bl, ty_tuple_int, ty_tuple_str, ty_tuple_tup, ty_tuple_lst, ty_tuple_dic, ty_tuple_set, ty_list_non, ty_list_bl, ty_list_int, ty_list_str, ty_list_tup, ty_list_lst, ty_list_dic, ty_list_set, ty_dict_non, ty_dict_bl, ty_dict_int, ty_dict_str, ty_dict_tup, ty_dict_lst, ty_dict_dic, ty_dict_set, ty_set_non, ty_set_bl, ty_set_int, ty_set_str, ty_set_tup, ty_set_lst, ty_set_dic, ty_set_set, e1, oneF, Int.toNat_natCast]
          by_cases h : r.getD k 0 = 1
          · simp only [wp_ret, wp_stuck, wp_bnd, kb_ap, wp_lift, wo_some, wo_none, wo_ite, wo_map, wp_ite, ks_nx, ks_rt, ks_bk, ks_ct, wp_seq, wp_pk, kpk_v, kpk_ow, wp_rd, krd_v, krd_ow, wp_mv, kmv_v, kmv_ow, wp_cst, wp_use2, k2_ap, wp_op2, wp_use1, k1_ap, wp_op1, wp_useN, kN_ap, wp_opN, rsv_d, rsv_pk, ksv_v, ksv_ow, rsvs_nil, rsvs_cons, kcons_ap, wp_osN, wp_osC, wp_lsN, wp_lsC, wp_fsN, wp_fsC, wp_opd, wp_frz, wp_tupM, wp_lstM, wp_tst, ktst_bl, wp_notB, wp_andB, wp_orB, wp_andV, wp_orV, wp_notV, wp_ifE, wp_drop, wp_retM, wp_retN, fr_v, fr_un, fr_ow, pl_v, pl_un, fr_pl, frO_ap, plO_ap, slot_f, slot_t, wp_put, wp_setM, wp_parM, puts_nil, puts_cons, kt_ap, wt_N, wts_nil, wts_cons, wt_T, wp_setT, wp_tg, wp_appU, kap_ap, isL_ap, kapp_ap, wp_appE, wp_setP, kset_ap, wp_setIx, wp_setQ, wp_useF, kcall_ap, kpb_ap, kpe_ap, wp_callM, kargs_ap, argsOf_nil, argsOf_cons, argOf_d, argOf_pk, karg_v, karg_ow, pks_nil, pks_d, pks_pk, kpks_ow, kpks_v, nodupN_nil, nodupN_one, nodupN_cons, pb_nil, pb_d, pb_dU, pb_pk, kpbk_ap, kr_rt, kr_nx, kre_ap, wp_runB, back_nil, back_v, back_ow, wp_forM, wp_srcV, wp_srcA, kfor_nx, kfor_ct, kfor_bk, kfor_rt, wp_forGo_nil, wb_nil, npO_ap, wb_cons, wp_lcM, klc_ap, wp_lcB, kel_ap, kco_t, kco_f, kco_d, List.getElem?_cons_zero, List.getElem?_cons_succ, List.set_cons_zero, List.set_cons_succ, List.length_cons, List.length_nil, List.length_append, List.replicate_succ, List.replicate_zero, List.cons_append, List.nil_append, if_true, if_false, ite_true, ite_false, Bool.false_eq_true, true_and, and_true, decide_eq_true_eq, Bool.not_true, Bool.not_false, Bool.not_eq_true', decide_eq_false_iff_not, reduceIte, reduceCtorEq, Nat.zero_add, Nat.reduceAdd, Nat.reduceSub, List.contains_nil, List.contains_cons, Bool.and_true, Bool.or_false, Bool.and_self, beq_self_eq_true, Nat.reduceBEq, Nat.reduceEqDiff, Nat.succ_eq_add_one, rst, List.getD_cons_zero, List.getD_cons_succ, isF, lenF, listF, tupleF, o_int, o_inti, o_addl, o_addt, o_mulb, absF, minF, maxF, sumF, seqOf, eq_self, decide_true, decide_false, not_true_eq_false, not_false_eq_true, Bool.or_true, Bool.true_or, Bool.false_or, Bool.true_and, Bool.false_and, Bool.and_false, Option.map_some, Option.map_none, bne_f, bne_t, dec_not, fr_pl, nums_int, List.length_map, o_lt, o_le, o_gt, o_ge, o_add, o_sub, o_mul, o_div, o_mod, o_pow, o_rng1, o_rng2, at_0, at_1, at_2, at_3, at_4, at_5, at_nat, ix_0, ix_1, ix_2, ix_3, idx_l, idx_t, o_eq, o_eqb, small_nil, small_c1, small_c2, small_c3, small_c4, small_c5, small_c6, o_isi, ty_int_non, ty_int_bl, ty_int_int, ty_int_str, ty_int_tup, ty_int_lst, ty_int_dic, ty_int_set, ty_bool_non, ty_bool_bl, ty_bool_int, ty_bool_str, ty_bool_tup, ty_bool_lst, ty_bool_dic, ty_bool_set, ty_str_non, ty_str_bl, ty_str_int, ty_str_str, ty_str_tup, ty_str_lst, ty_str_dic, ty_str_set, ty_tuple_non, ty_tuple_bl, ty_tuple_int, ty_tuple_str, ty_tuple_tup, ty_tuple_lst, ty_tuple_dic, ty_tuple_set, ty_list_non, ty_list_bl, ty_list_int, ty_list_str, ty_list_tup, ty_list_lst, ty_list_dic, ty_list_set, ty_dict_non, ty_dict_bl, ty_dict_int, ty_dict_str, ty_dict_tup, ty_dict_lst, ty_dict_dic, ty_dict_set, ty_set_non, ty_set_bl, ty_set_int, ty_set_str, ty_set_tup, ty_set_lst, ty_set_dic, ty_set_set, h]
          · simp only [wp_ret, wp_stuck, wp_bnd, kb_ap, wp_lift, wo_some, wo_none, wo_ite, wo_map, wp_ite, ks_nx, ks_rt, ks_bk, ks_ct, wp_seq, wp_pk, kpk_v, kpk_ow, wp_rd, krd_v, krd_ow, wp_mv, kmv_v, kmv_ow, wp_cst, wp_use2, k2_ap, wp_op2, wp_use1, k1_ap, wp_op1, wp_useN, kN_ap, wp_opN, rsv_d, rsv_pk, ksv_v, ksv_ow, rsvs_nil, rsvs_cons, kcons_ap, wp_osN, wp_osC, wp_lsN, wp_lsC, wp_fsN, wp_fsC, wp_opd, wp_frz, wp_tupM, wp_lstM, wp_tst, ktst_bl, wp_notB, wp_andB, wp_orB, wp_andV, wp_orV, wp_notV, wp_ifE, wp_drop, wp_retM, wp_retN, fr_v, fr_un, fr_ow, pl_v, pl_un, fr_pl, frO_ap, plO_ap, slot_f, slot_t, wp_put, wp_setM, wp_parM, puts_nil, puts_cons, kt_ap, wt_N, wts_nil, wts_cons, wt_T, wp_setT, wp_tg, wp_appU, kap_ap, isL_ap, kapp_ap, wp_appE, wp_setP, kset_ap, wp_setIx, wp_setQ, wp_useF, kcall_ap, kpb_ap, kpe_ap, wp_callM, kargs_ap, argsOf_nil, argsOf_cons, argOf_d, argOf_pk, karg_v, karg_ow, pks_nil, pks_d, pks_pk, kpks_ow, kpks_v, nodupN_nil, nodupN_one, nodupN_cons, pb_nil, pb_d, pb_dU, pb_pk, kpbk_ap, kr_rt, kr_nx, kre_ap, wp_runB, back_nil, back_v, back_ow, wp_forM, wp_srcV, wp_srcA, kfor_nx, kfor_ct, kfor_bk, kfor_rt, wp_forGo_nil, wb_nil, npO_ap, wb_cons, wp_lcM, klc_ap, wp_lcB, kel_ap, kco_t, kco_f, kco_d, List.getElem?_cons_zero, List.getElem?_cons_succ, List.set_cons_zero, List.set_cons_succ, List.length_cons, List.length_nil, List.length_append, List.replicate_succ, List.replicate_zero, List.cons_append, List.nil_append, if_true, if_false, ite_true, ite_false, Bool.false_eq_true, true_and, and_true, decide_eq_true_eq, Bool.not_true, Bool.not_false, Bool.not_eq_true', decide_eq_false_iff_not, reduceIte, reduceCtorEq, Nat.zero_add, Nat.reduceAdd, Nat.reduceSub, List.contains_nil, List.contains_cons, Bool.and_true, Bool.or_false, Bool.and_self, beq_self_eq_true, Nat.reduceBEq, Nat.reduceEqDiff, Nat.succ_eq_add_one, rst, List.getD_cons_zero, List.getD_cons_succ, isF, lenF, listF, tupleF, o_int, o_inti, o_addl, o_addt, o_mulb, absF, minF, maxF, sumF, seqOf, eq_self, decide_true, decide_false, not_true_eq_false, not_false_eq_true, Bool.or_true, Bool.true_or, Bool.false_or, Bool.true_and, Bool.false_and, Bool.and_false, Option.map_some, Option.map_none, bne_f, bne_t, dec_not, fr_pl, nums_int, List.length_map, o_lt, o_le, o_gt, o_ge, o_add, o_sub, o_mul, o_div, o_mod, o_pow, o_rng1, o_rng2, at_0, at_1, at_2, at_3, at_4, at_5, at_nat, ix_0, ix_1, ix_2, ix_3, idx_l, idx_t, o_eq, o_eqb, small_nil, small_c1, small_c2, small_c3, small_c4, small_c5, small_c6, o_isi, ty_int_non, ty_int_bl, ty_int_int, ty_int_str, ty_int_tup, ty_int_lst, ty_int_dic, ty_int_set, ty_bool_non, ty_bool_bl, ty_bool_int, ty_bool_str, ty_bool_tup, ty_bool_lst, ty_bool_dic, ty_bool_set, ty_str_non, ty_str_bl, ty_str_int, ty_str_str, ty_str_tup, ty_str_lst, ty_str_dic, ty_str_set, ty_tuple_non, ty_tuple_bl, ty_tuple_int, ty_tuple_str, ty_tuple_tup, ty_tuple_lst, ty_tuple_dic, ty_tuple_set, ty_list_non, ty_list_bl, ty_list_int, ty_list_str, ty_list_tup, ty_list_lst, ty_list_dic, ty_list_set, ty_dict_non, ty_dict_bl, ty_dict_int, ty_dict_str, ty_dict_tup, ty_dict_lst, ty_dict_dic, ty_dict_set, ty_set_non, ty_set_bl, ty_set_int, ty_set_str, ty_set_tup, ty_set_lst, ty_set_dic, ty_set_set, h]
        · rw [ones_f]
          have e1 : atI (List.map D.int (onesAt r)) (1 + (p : Int) - 1) = some (.int (atR p r)) := by
            rw [show 1 + (p : Int) - 1 = (p : Int) from by omega, at_nat, List.getElem?_map, List.getElem?_eq_getElem (by omega)]
            unfold atR
            rw [List.getD_eq_getElem?_getD, List.getElem?_eq_getElem (by omega)]
            rfl
          simp only [wp_ret, wp_stuck, wp_bnd, kb_ap, wp_lift, wo_some, wo_none, wo_ite, wo_map, wp_ite, ks_nx, ks_rt, ks_bk, ks_ct, wp_seq, wp_pk, kpk_v, kpk_ow, wp_rd, krd_v, krd_ow, wp_mv, kmv_v, kmv_ow, wp_cst, wp_use2, k2_ap, wp_op2, wp_use1, k1_ap, wp_op1, wp_useN, kN_ap, wp_opN, rsv_d, rsv_pk, ksv_v, ksv_ow, rsvs_nil, rsvs_cons, kcons_ap, wp_osN, wp_osC, wp_lsN, wp_lsC, wp_fsN, wp_fsC, wp_opd, wp_frz, wp_tupM, wp_lstM, wp_tst, ktst_bl, wp_notB, wp_andB, wp_orB, wp_andV, wp_orV, wp_notV, wp_ifE, wp_drop, wp_retM, wp_retN, fr_v, fr_un, fr_ow, pl_v, pl_un, fr_pl, frO_ap, plO_ap, slot_f, slot_t, wp_put, wp_setM, wp_parM, puts_nil, puts_cons, kt_ap, wt_N, wts_nil, wts_cons, wt_T, wp_setT, wp_tg, wp_appU, kap_ap, isL_ap, kapp_ap, wp_appE, wp_setP, kset_ap, wp_setIx, wp_setQ, wp_useF, kcall_ap, kpb_ap, kpe_ap, wp_callM, kargs_ap, argsOf_nil, argsOf_cons, argOf_d, argOf_pk, karg_v, karg_ow, pks_nil, pks_d, pks_pk, kpks_ow, kpks_v, nodupN_nil, nodupN_one, nodupN_cons, pb_nil, pb_d, pb_dU, pb_pk, kpbk_ap, kr_rt, kr_nx, kre_ap, wp_runB, back_nil, back_v, back_ow, wp_forM, wp_srcV, wp_srcA, kfor_nx, kfor_ct, kfor_bk, kfor_rt, wp_forGo_nil, wb_nil, npO_ap, wb_cons, wp_lcM, klc_ap, wp_lcB, kel_ap, kco_t, kco_f, kco_d, List.getElem?_cons_zero, List.getElem?_cons_succ, List.set_cons_zero, List.set_cons_succ, List.length_cons, List.length_nil, List.length_append, List.replicate_succ, List.replicate_zero, List.cons_append, List.nil_append, if_true, if_false, ite_true, ite_false, Bool.false_eq_true, true_and, and_true, decide_eq_true_eq, Bool.not_true, Bool.not_false, Bool.not_eq_true', decide_eq_false_iff_not, reduceIte, reduceCtorEq, Nat.zero_add, Nat.reduceAdd, Nat.reduceSub, List.contains_nil, List.contains_cons, Bool.and_true, Bool.or_false, Bool.and_self, beq_self_eq_true, Nat.reduceBEq, Nat.reduceEqDiff, Nat.succ_eq_add_one, rst, List.getD_cons_zero, List.getD_cons_succ, isF, lenF, listF, tupleF, o_int, o_inti, o_addl, o_addt, o_mulb, absF, minF, maxF, sumF, seqOf, eq_self, decide_true, decide_false, not_true_eq_false, not_false_eq_true, Bool.or_true, Bool.true_or, Bool.false_or, Bool.true_and, Bool.false_and, Bool.and_false, Option.map_some, Option.map_none, bne_f, bne_t, dec_not, fr_pl, nums_int, List.length_map, o_lt, o_le, o_gt, o_ge, o_add, o_sub, o_mul, o_div, o_mod, o_pow, o_rng1, o_rng2, at_0, at_1, at_2, at_3, at_4, at_5, at_nat, ix_0, ix_1, ix_2, ix_3, idx_l, idx_t, o_eq, o_eqb, small_nil, small_c1, small_c2, small_c3, small_c4, small_c5, small_c6, o_isi, ty_int_non, ty_int_bl, ty_int_int, ty_int_str, ty_int_tup, ty_int_lst, ty_int_dic, ty_int_set, ty_bool_non, ty_bool_bl, ty_bool_int, ty_bool_str, ty_bool_tup, ty_bool_lst, ty_bool_dic, ty_bool_set, ty_str_non, ty_str_bl, ty_str_int, ty_str_str, ty_str_tup, ty_str_lst, ty_str_dic, ty_str_set, ty_tuple_non, ty_tuple_bl, ty_tuple_int, ty_tuple_str, ty_tuple_tup, ty_tuple_lst, ty_tuple_dic, ty_tuple_set, ty_list_non, ty_list_bl, ty_list_int, ty_list_str, ty_list_tup, ty_list_lst, ty_list_dic, ty_list_set, ty_dict_non, ty_dict_bl, ty_dict_int, ty_dict_str, ty_dict_tup, ty_dict_lst, ty_dict_dic, ty_dict_set, ty_set_non, ty_set_bl, ty_set_int, ty_set_str, ty_set_tup, ty_set_lst, ty_set_dic, ty_set_set, e1, h21]
          refine ⟨small_of (by rw [List.length_map]; omega), ?_⟩
          have hrem : ∀ x, x ∈ rem → (onesAt x).length = s ∧ x.length = s + o := fun x m => hr x (List.mem_cons_of_mem _ m)
          unfold cnt at hf
          rw [List.filter_cons] at hf
          by_cases hc : atR p r - (1 + (p : Int)) + 1 = (bf : Int)
          · simp only [hc, decide_true, if_true, List.length_cons] at hf ⊢
            exact ⟨f + 1, _, _, rfl, rfl, rfl, by unfold cnt; omega, hrem⟩
          · simp only [hc, decide_false, Bool.false_eq_true, if_false] at hf ⊢
            exact ⟨f, _, _, by rw [Int.add_zero], rfl, rfl, by unfold cnt; omega, hrem⟩
      · obtain ⟨f, x20, x21, rfl, h20, h21, hf, hr⟩ := h
        have hf : f = cnt p bf RS := hf
        rw [ck4 p (by omega) bf (by omega)] at hf
        simp only [wp_ret, wp_stuck, wp_bnd, kb_ap, wp_lift, wo_some, wo_none, wo_ite, wo_map, wp_ite, ks_nx, ks_rt, ks_bk, ks_ct, wp_seq, wp_pk, kpk_v, kpk_ow, wp_rd, krd_v, krd_ow, wp_mv, kmv_v, kmv_ow, wp_cst, wp_use2, k2_ap, wp_op2, wp_use1, k1_ap, wp_op1, wp_useN, kN_ap, wp_opN, rsv_d, rsv_pk, ksv_v, ksv_ow, rsvs_nil, rsvs_cons, kcons_ap, wp_osN, wp_osC, wp_lsN, wp_lsC, wp_fsN, wp_fsC, wp_opd, wp_frz, wp_tupM, wp_lstM, wp_tst, ktst_bl, wp_notB, wp_andB, wp_orB, wp_andV, wp_orV, wp_notV, wp_ifE, wp_drop, wp_retM, wp_retN, fr_v, fr_un, fr_ow, pl_v, pl_un, fr_pl, frO_ap, plO_ap, slot_f, slot_t, wp_put, wp_setM, wp_parM, puts_nil, puts_cons, kt_ap, wt_N, wts_nil, wts_cons, wt_T, wp_setT, wp_tg, wp_appU, kap_ap, isL_ap, kapp_ap, wp_appE, wp_setP, kset_ap, wp_setIx, wp_setQ, wp_useF, kcall_ap, kpb_ap, kpe_ap, wp_callM, kargs_ap, argsOf_nil, argsOf_cons, argOf_d, argOf_pk, karg_v, karg_ow, pks_nil, pks_d, pks_pk, kpks_ow, kpks_v, nodupN_nil, nodupN_one, nodupN_cons, pb_nil, pb_d, pb_dU, pb_pk, kpbk_ap, kr_rt, kr_nx, kre_ap, wp_runB, back_nil, back_v, back_ow, wp_forM, wp_srcV, wp_srcA, kfor_nx, kfor_ct, kfor_bk, kfor_rt, wp_forGo_nil, wb_nil, npO_ap, wb_cons, wp_lcM, klc_ap, wp_lcB, kel_ap, kco_t, kco_f, kco_d, List.getElem?_cons_zero, List.getElem?_cons_succ, List.set_cons_zero, List.set_cons_succ, List.length_cons, List.length_nil, List.length_append, List.replicate_succ, List.replicate_zero, List.cons_append, List.nil_append, if_true, if_false, ite_true, ite_false, Bool.false_eq_true, true_and, and_true, decide_eq_true_eq, Bool.not_true, Bool.not_false, Bool.not_eq_true', decide_eq_false_iff_not, reduceIte, reduceCtorEq, Nat.zero_add, Nat.reduceAdd, Nat.reduceSub, List.contains_nil, List.contains_cons, Bool.and_true, Bool.or_false, Bool.and_self, beq_self_eq_true, Nat.reduceBEq, Nat.reduceEqDiff, Nat.succ_eq_add_one, rst, List.getD_cons_zero, List.getD_cons_succ, isF, lenF, listF, tupleF, o_int, o_inti, o_addl, o_addt, o_mulb, absF, minF, maxF, sumF, seqOf, eq_self, decide_true, decide_false, not_true_eq_false, not_false_eq_true, Bool.or_true, Bool.true_or, Bool.false_or, Bool.true_and, Bool.false_and, Bool.and_false, Option.map_some, Option.map_none, bne_f, bne_t, dec_not, fr_pl, nums_int, List.length_map, o_lt, o_le, o_gt, o_ge, o_add, o_sub, o_mul, o_div, o_mod, o_pow, o_rng1, o_rng2, at_0, at_1, at_2, at_3, at_4, at_5, at_nat, ix_0, ix_1, ix_2, ix_3, idx_l, idx_t, o_eq, o_eqb, small_nil, small_c1, small_c2, small_c3, small_c4, small_c5, small_c6, o_isi, ty_int_non, ty_int_bl, ty_int_int, ty_int_str, ty_int_tup, ty_int_lst, ty_int_dic, ty_int_set, ty_bool_non, ty_bool_bl, ty_bool_int, ty_bool_str, ty_bool_tup, ty_bool_lst, ty_bool_dic, ty_bool_set, ty_str_non, ty_str_bl, ty_str_int, ty_str_str, ty_str_tup, ty_str_lst, ty_str_dic, ty_str_set, ty_tuple_non, ty_tuple_bl, ty_tuple_int, ty_tuple_str, ty_tuple_tup, ty_tuple_lst, ty_tuple_dic, ty_tuple_set, ty_list_non, ty_list_bl, ty_list_int, ty_list_str, ty_list_tup, ty_list_lst, ty_list_dic, ty_list_set, ty_dict_non, ty_dict_bl, ty_dict_int, ty_dict_str, ty_dict_tup, ty_dict_lst, ty_dict_dic, ty_dict_set, ty_set_non, ty_set_bl, ty_set_int, ty_set_str, ty_set_tup, ty_set_lst, ty_set_dic, ty_set_set]
        rw [show (1 : Int) + (p : Int) = ((p + 1 : Nat) : Int) from by omega]
        refine wp_mixtures_at (by omega) (by omega) (by omega) s5 o5 ?_
        simp only [wp_ret, wp_stuck, wp_bnd, kb_ap, wp_lift, wo_some, wo_none, wo_ite, wo_map, wp_ite, ks_nx, ks_rt, ks_bk, ks_ct, wp_seq, wp_pk, kpk_v, kpk_ow, wp_rd, krd_v, krd_ow, wp_mv, kmv_v, kmv_ow, wp_cst, wp_use2, k2_ap, wp_op2, wp_use1, k1_ap, wp_op1, wp_useN, kN_ap, wp_opN, rsv_d, rsv_pk, ksv_v, ksv_ow, rsvs_nil, rsvs_cons, kcons_ap, wp_osN, wp_osC, wp_lsN, wp_lsC, wp_fsN, wp_fsC, wp_opd, wp_frz, wp_tupM, wp_lstM, wp_tst, ktst_bl, wp_notB, wp_andB, wp_orB, wp_andV, wp_orV, wp_notV, wp_ifE, wp_drop, wp_retM, wp_retN, fr_v, fr_un, fr_ow, pl_v, pl_un, fr_pl, frO_ap, plO_ap, slot_f, slot_t, wp_put, wp_setM, wp_parM, puts_nil, puts_cons, kt_ap, wt_N, wts_nil, wts_cons, wt_T, wp_setT, wp_tg, wp_appU, kap_ap, isL_ap, kapp_ap, wp_appE, wp_setP, kset_ap, wp_setIx, wp_setQ, wp_useF, kcall_ap, kpb_ap, kpe_ap, wp_callM, kargs_ap, argsOf_nil, argsOf_cons, argOf_d, argOf_pk, karg_v, karg_ow, pks_nil, pks_d, pks_pk, kpks_ow, kpks_v, nodupN_nil, nodupN_one, nodupN_cons, pb_nil, pb_d, pb_dU, pb_pk, kpbk_ap, kr_rt, kr_nx, kre_ap, wp_runB, back_nil, back_v, back_ow, wp_forM, wp_srcV, wp_srcA, kfor_nx, kfor_ct, kfor_bk, kfor_rt, wp_forGo_nil, wb_nil, npO_ap, wb_cons, wp_lcM, klc_ap, wp_lcB, kel_ap, kco_t, kco_f, kco_d, List.getElem?_cons_zero, List.getElem?_cons_succ, List.set_cons_zero, List.set_cons_succ, List.length_cons, List.length_nil, List.length_append, List.replicate_succ, List.replicate_zero, List.cons_append, List.nil_append, if_true, if_false, ite_true, ite_false, Bool.false_eq_true, true_and, and_true, decide_eq_true_eq, Bool.not_true, Bool.not_false, Bool.not_eq_true', decide_eq_false_iff_not, reduceIte, reduceCtorEq, Nat.zero_add, Nat.reduceAdd, Nat.reduceSub, List.contains_nil, List.contains_cons, Bool.and_true, Bool.or_false, Bool.and_self, beq_self_eq_true, Nat.reduceBEq, Nat.reduceEqDiff, Nat.succ_eq_add_one, rst, List.getD_cons_zero, List.getD_cons_succ, isF, lenF, listF, tupleF, o_int, o_inti, o_addl, o_addt, o_mulb, absF, minF, maxF, sumF, seqOf, eq_self, decide_true, decide_false, not_true_eq_false, not_false_eq_true, Bool.or_true, Bool.true_or, Bool.false_or, Bool.true_and, Bool.false_and, Bool.and_false, Option.map_some, Option.map_none, bne_f, bne_t, dec_not, fr_pl, nums_int, List.length_map, o_lt, o_le, o_gt, o_ge, o_add, o_sub, o_mul, o_div, o_mod, o_pow, o_rng1, o_rng2, at_0, at_1, at_2, at_3, at_4, at_5, at_nat, ix_0, ix_1, ix_2, ix_3, idx_l, idx_t, o_eq, o_eqb, small_nil, small_c1, small_c2, small_c3, small_c4, small_c5, small_c6, o_isi, ty_int_non, ty_int_bl, ty_int_int, ty_int_str, ty_int_tup, ty_int_lst, ty_int_dic, ty_int_set, ty_bool_non, ty_bool_bl, ty_bool_int, ty_bool_str, ty_bool_tup, ty_bool_lst, ty_bool_dic, ty_bool_set, ty_str_non, ty_str_bl, ty_str_int, ty_str_str, ty_str_tup, ty_str_lst, ty_str_dic, ty_str_set, ty_tuple_non, ty_tuple_bl, ty_tuple_int, ty_tuple_str, ty_tuple_tup, ty_tuple_lst, ty_tuple_dic, ty_tuple_set, ty_list_non, ty_list_bl, ty_list_int, ty_list_str, ty_list_tup, ty_list_lst, ty_list_dic, ty_list_set, ty_dict_non, ty_dict_bl, ty_dict_int, ty_dict_str, ty_dict_tup, ty_dict_lst, ty_dict_dic, ty_dict_set, ty_set_non, ty_set_bl, ty_set_int, ty_set_str, ty_set_tup, ty_set_lst, ty_set_dic, ty_set_set, natD]
        refine wp_sameI (by rw [hf]; rfl) plain_int ?_
        simp only [wp_ret, wp_stuck, wp_bnd, kb_ap, wp_lift, wo_some, wo_none, wo_ite, wo_map, wp_ite, ks_nx, ks_rt, ks_bk, ks_ct, wp_seq, wp_pk, kpk_v, kpk_ow, wp_rd, krd_v, krd_ow, wp_mv, kmv_v, kmv_ow, wp_cst, wp_use2, k2_ap, wp_op2, wp_use1, k1_ap, wp_op1, wp_useN, kN_ap, wp_opN, rsv_d, rsv_pk, ksv_v, ksv_ow, rsvs_nil, rsvs_cons, kcons_ap, wp_osN, wp_osC, wp_lsN, wp_lsC, wp_fsN, wp_fsC, wp_opd, wp_frz, wp_tupM, wp_lstM, wp_tst, ktst_bl, wp_notB, wp_andB, wp_orB, wp_andV, wp_orV, wp_notV, wp_ifE, wp_drop, wp_retM, wp_retN, fr_v, fr_un, fr_ow, pl_v, pl_un, fr_pl, frO_ap, plO_ap, slot_f, slot_t, wp_put, wp_setM, wp_parM, puts_nil, puts_cons, kt_ap, wt_N, wts_nil, wts_cons, wt_T, wp_setT, wp_tg, wp_appU, kap_ap, isL_ap, kapp_ap, wp_appE, wp_setP, kset_ap, wp_setIx, wp_setQ, wp_useF, kcall_ap, kpb_ap, kpe_ap, wp_callM, kargs_ap, argsOf_nil, argsOf_cons, argOf_d, argOf_pk, karg_v, karg_ow, pks_nil, pks_d, pks_pk, kpks_ow, kpks_v, nodupN_nil, nodupN_one, nodupN_cons, pb_nil, pb_d, pb_dU, pb_pk, kpbk_ap, kr_rt, kr_nx, kre_ap, wp_runB, back_nil, back_v, back_ow, wp_forM, wp_srcV, wp_srcA, kfor_nx, kfor_ct, kfor_bk, kfor_rt, wp_forGo_nil, wb_nil, npO_ap, wb_cons, wp_lcM, klc_ap, wp_lcB, kel_ap, kco_t, kco_f, kco_d, List.getElem?_cons_zero, List.getElem?_cons_succ, List.set_cons_zero, List.set_cons_succ, List.length_cons, List.length_nil, List.length_append, List.replicate_succ, List.replicate_zero, List.cons_append, List.nil_append, if_true, if_false, ite_true, ite_false, Bool.false_eq_true, true_and, and_true, decide_eq_true_eq, Bool.not_true, Bool.not_false, Bool.not_eq_true', decide_eq_false_iff_not, reduceIte, reduceCtorEq, Nat.zero_add, Nat.reduceAdd, Nat.reduceSub, List.contains_nil, List.contains_cons, Bool.and_true, Bool.or_false, Bool.and_self, beq_self_eq_true, Nat.reduceBEq, Nat.reduceEqDiff, Nat.succ_eq_add_one, rst, List.getD_cons_zero, List.getD_cons_succ, isF, lenF, listF, tupleF, o_int, o_inti, o_addl, o_addt, o_mulb, absF, minF, maxF, sumF, seqOf, eq_self, decide_true, decide_false, not_true_eq_false, not_false_eq_true, Bool.or_true, Bool.true_or, Bool.false_or, Bool.true_and, Bool.false_and, Bool.and_false, Option.map_some, Option.map_none, bne_f, bne_t, dec_not, fr_pl, nums_int, List.length_map, o_lt, o_le, o_gt, o_ge, o_add, o_sub, o_mul, o_div, o_mod, o_pow, o_rng1, o_rng2, at_0, at_1, at_2, at_3, at_4, at_5, at_nat, ix_0, ix_1, ix_2, ix_3, idx_l, idx_t, o_eq, o_eqb, small_nil, small_c1, small_c2, small_c3, small_c4, small_c5, small_c6, o_isi, ty_int_non, ty_int_bl, ty_int_int, ty_int_str, ty_int_tup, ty_int_lst, ty_int_dic, ty_int_set, ty_bool_non, ty_bool_bl, ty_bool_int, ty_bool_str, ty_bool_tup, ty_bool_lst, ty_bool_dic, ty_bool_set, ty_str_non, ty_str_bl, ty_str_int, ty_str_str, ty_str_tup, ty_str_lst, ty_str_dic, ty_str_set, ty_tuple_non, ty_tuple_bl, ty_tuple_int, ty_tuple_str, ty_tuple_tup, ty_tuple_lst, ty_tuple_dic, ty_tuple_set, ty_list_non, ty_list_bl, ty_list_int, ty_list_str, ty_list_tup, ty_list_lst, ty_list_dic, ty_list_set, ty_dict_non, ty_dict_bl, ty_dict_int, ty_dict_str, ty_dict_tup, ty_dict_lst, ty_dict_dic, ty_dict_set, ty_set_non, ty_set_bl, ty_set_int, ty_set_str, ty_set_tup, ty_set_lst, ty_set_dic, ty_set_set]
        exact ⟨_, _, _, _, rfl, rfl, rfl, h20, h21⟩
    · obtain ⟨x18, x19, x20, x21, rfl, h18, h19, h20, h21⟩ := h
      simp only [wp_ret, wp_stuck, wp_bnd, kb_ap, wp_lift, wo_some, wo_none, wo_ite, wo_map, wp_ite, ks_nx, ks_rt, ks_bk, ks_ct, wp_seq, wp_pk, kpk_v, kpk_ow, wp_rd, krd_v, krd_ow, wp_mv, kmv_v, kmv_ow, wp_cst, wp_use2, k2_ap, wp_op2, wp_use1, k1_ap, wp_op1, wp_useN, kN_ap, wp_opN, rsv_d, rsv_pk, ksv_v, ksv_ow, rsvs_nil, rsvs_cons, kcons_ap, wp_osN, wp_osC, wp_lsN, wp_lsC, wp_fsN, wp_fsC, wp_opd, wp_frz, wp_tupM, wp_lstM, wp_tst, ktst_bl, wp_notB, wp_andB, wp_orB, wp_andV, wp_orV, wp_notV, wp_ifE, wp_drop, wp_retM, wp_retN, fr_v, fr_un, fr_ow, pl_v, pl_un, fr_pl, frO_ap, plO_ap, slot_f, slot_t, wp_put, wp_setM, wp_parM, puts_nil, puts_cons, kt_ap, wt_N, wts_nil, wts_cons, wt_T, wp_setT, wp_tg, wp_appU, kap_ap, isL_ap, kapp_ap, wp_appE, wp_setP, kset_ap, wp_setIx, wp_setQ, wp_useF, kcall_ap, kpb_ap, kpe_ap, wp_callM, kargs_ap, argsOf_nil, argsOf_cons, argOf_d, argOf_pk, karg_v, karg_ow, pks_nil, pks_d, pks_pk, kpks_ow, kpks_v, nodupN_nil, nodupN_one, nodupN_cons, pb_nil, pb_d, pb_dU, pb_pk, kpbk_ap, kr_rt, kr_nx, kre_ap, wp_runB, back_nil, back_v, back_ow, wp_forM, wp_srcV, wp_srcA, kfor_nx, kfor_ct, kfor_bk, kfor_rt, wp_forGo_nil, wb_nil, npO_ap, wb_cons, wp_lcM, klc_ap, wp_lcB, kel_ap, kco_t, kco_f, kco_d, List.getElem?_cons_zero, List.getElem?_cons_succ, List.set_cons_zero, List.set_cons_succ, List.length_cons, List.length_nil, List.length_append, List.replicate_succ, List.replicate_zero, List.cons_append, List.nil_append, if_true, if_false, ite_true, ite_false, Bool.false_eq_true, true_and, and_true, decide_eq_true_eq, Bool.not_true, Bool.not_false, Bool.not_eq_true', decide_eq_false_iff_not, reduceIte, reduceCtorEq, Nat.zero_add, Nat.reduceAdd, Nat.reduceSub, List.contains_nil, List.contains_cons, Bool.and_true, Bool.or_false, Bool.and_self, beq_self_eq_true, Nat.reduceBEq, Nat.reduceEqDiff, Nat.succ_eq_add_one, rst, List.getD_cons_zero, List.getD_cons_succ, isF, lenF, listF, tupleF, o_int, o_inti, o_addl, o_addt, o_mulb, absF, minF, maxF, sumF, seqOf, eq_self, decide_true, decide_false, not_true_eq_false, not_false_eq_true, Bool.or_true, Bool.true_or, Bool.false_or, Bool.true_and, Bool.false_and, Bool.and_false, Option.map_some, Option.map_none, bne_f, bne_t, dec_not, fr_pl, nums_int, List.length_map, o_lt, o_le, o_gt, o_ge, o_add, o_sub, o_mul, o_div, o_mod, o_pow, o_rng1, o_rng2, at_0, at_1, at_2, at_3, at_4, at_5, at_nat, ix_0, ix_1, ix_2, ix_3, idx_l, idx_t, o_eq, o_eqb, small_nil, small_c1, small_c2, small_c3, small_c4, small_c5, small_c6, o_isi, ty_int_non, ty_int_bl, ty_int_int, ty_int_str, ty_int_tup, ty_int_lst, ty_int_dic, ty_int_set, ty_bool_non, ty_bool_bl, ty_bool_int, ty_bool_str, ty_bool_tup, ty_bool_lst, ty_bool_dic, ty_bool_set, ty_str_non, ty_str_bl, ty_str_int, ty_str_str, ty_str_tup, ty_str_lst, ty_str_dic, ty_str_set, ty_tuple_non, ty_tuple_bl, ty_tuple_int, ty_tuple_str, ty_tuple_tup, ty_tuple_lst, ty_tuple_dic, ty_tuple_set, ty_list_non, ty_list_bl, ty_list_int, ty_list_str, ty_list_tup, ty_list_lst, ty_list_dic, ty_list_set, ty_dict_non, ty_dict_bl, ty_dict_int, ty_dict_str, ty_dict_tup, ty_dict_lst, ty_dict_dic, ty_dict_set, ty_set_non, ty_set_bl, ty_set_int, ty_set_str, ty_set_tup, ty_set_lst, ty_set_dic, ty_set_set]
      exact ⟨_, _, _, _, _, rfl, rfl, h18, h19, h20, h21⟩
  obtain ⟨x17, x18, x19, x20, x21, rfl, h17, h18, h19, h20, h21⟩ := h
  simp only [wp_ret, wp_stuck, wp_bnd, kb_ap, wp_lift, wo_some, wo_none, wo_ite, wo_map, wp_ite, ks_nx, ks_rt, ks_bk, ks_ct, wp_seq, wp_pk, kpk_v, kpk_ow, wp_rd, krd_v, krd_ow, wp_mv, kmv_v, kmv_ow, wp_cst, wp_use2, k2_ap, wp_op2, wp_use1, k1_ap, wp_op1, wp_useN, kN_ap, wp_opN, rsv_d, rsv_pk, ksv_v, ksv_ow, rsvs_nil, rsvs_cons, kcons_ap, wp_osN, wp_osC, wp_lsN, wp_lsC, wp_fsN, wp_fsC, wp_opd, wp_frz, wp_tupM, wp_lstM, wp_tst, ktst_bl, wp_notB, wp_andB, wp_orB, wp_andV, wp_orV, wp_notV, wp_ifE, wp_drop, wp_retM, wp_retN, fr_v, fr_un, fr_ow, pl_v, pl_un, fr_pl, frO_ap, plO_ap, slot_f, slot_t, wp_put, wp_setM, wp_parM, puts_nil, puts_cons, kt_ap, wt_N, wts_nil, wts_cons, wt_T, wp_setT, wp_tg, wp_appU, kap_ap, isL_ap, kapp_ap, wp_appE, wp_setP, kset_ap, wp_setIx, wp_setQ, wp_useF, kcall_ap, kpb_ap, kpe_ap, wp_callM, kargs_ap, argsOf_nil, argsOf_cons, argOf_d, argOf_pk, karg_v, karg_ow, pks_nil, pks_d, pks_pk, kpks_ow, kpks_v, nodupN_nil, nodupN_one, nodupN_cons, pb_nil, pb_d, pb_dU, pb_pk, kpbk_ap, kr_rt, kr_nx, kre_ap, wp_runB, back_nil, back_v, back_ow, wp_forM, wp_srcV, wp_srcA, kfor_nx, kfor_ct, kfor_bk, kfor_rt, wp_forGo_nil, wb_nil, npO_ap, wb_cons, wp_lcM, klc_ap, wp_lcB, kel_ap, kco_t, kco_f, kco_d, List.getElem?_cons_zero, List.getElem?_cons_succ, List.set_cons_zero, List.set_cons_succ, List.length_cons, List.length_nil, List.length_append, List.replicate_succ, List.replicate_zero, List.cons_append, List.nil_append, if_true, if_false, ite_true, ite_false, Bool.false_eq_true, true_and, and_true, decide_eq_true_eq, Bool.not_true, Bool.not_false, Bool.not_eq_true', decide_eq_false_iff_not, reduceIte, reduceCtorEq, Nat.zero_add, Nat.reduceAdd, Nat.reduceSub, List.contains_nil, List.contains_cons, Bool.and_true, Bool.or_false, Bool.and_self, beq_self_eq_true, Nat.reduceBEq, Nat.reduceEqDiff, Nat.succ_eq_add_one, rst, List.getD_cons_zero, List.getD_cons_succ, isF, lenF, listF, tupleF, o_int, o_inti, o_addl, o_addt, o_mulb, absF, minF, maxF, sumF, seqOf, eq_self, decide_true, decide_false, not_true_eq_false, not_false_eq_true, Bool.or_true, Bool.true_or, Bool.false_or, Bool.true_and, Bool.false_and, Bool.and_false, Option.map_some, Option.map_none, bne_f, bne_t, dec_not, fr_pl, nums_int, List.length_map, o_lt, o_le, o_gt, o_ge, o_add, o_sub, o_mul, o_div, o_mod, o_pow, o_rng1, o_rng2, at_0, at_1, at_2, at_3, at_4, at_5, at_nat, ix_0, ix_1, ix_2, ix_3, idx_l, idx_t, o_eq, o_eqb, small_nil, small_c1, small_c2, small_c3, small_c4, small_c5, small_c6, o_isi, ty_int_non, ty_int_bl, ty_int_int, ty_int_str, ty_int_tup, ty_int_lst, ty_int_dic, ty_int_set, ty_bool_non, ty_bool_bl, ty_bool_int, ty_bool_str, ty_bool_tup, ty_bool_lst, ty_bool_dic, ty_bool_set, ty_str_non, ty_str_bl, ty_str_int, ty_str_str, ty_str_tup, ty_str_lst, ty_str_dic, ty_str_set, ty_tuple_non, ty_tuple_bl, ty_tuple_int, ty_tuple_str, ty_tuple_tup, ty_tuple_lst, ty_tuple_dic, ty_tuple_set, ty_list_non, ty_list_bl, ty_list_int, ty_list_str, ty_list_tup, ty_list_lst, ty_list_dic, ty_list_set, ty_dict_non, ty_dict_bl, ty_dict_int, ty_dict_str, ty_dict_tup, ty_dict_lst, ty_dict_dic, ty_dict_set, ty_set_non, ty_set_bl, ty_set_int, ty_set_str, ty_set_tup, ty_set_lst, ty_set_dic, ty_set_set]
  refine C.wp_draw hb (by decide) (by decide) (by omega) fun u b hu hb => ?_
  simp only [wp_ret, wp_stuck, wp_bnd, kb_ap, wp_lift, wo_some, wo_none, wo_ite, wo_map, wp_ite, ks_nx, ks_rt, ks_bk, ks_ct, wp_seq, wp_pk, kpk_v, kpk_ow, wp_rd, krd_v, krd_ow, wp_mv, kmv_v, kmv_ow, wp_cst, wp_use2, k2_ap, wp_op2, wp_use1, k1_ap, wp_op1, wp_useN, kN_ap, wp_opN, rsv_d, rsv_pk, ksv_v, ksv_ow, rsvs_nil, rsvs_cons, kcons_ap, wp_osN, wp_osC, wp_lsN, wp_lsC, wp_fsN, wp_fsC, wp_opd, wp_frz, wp_tupM, wp_lstM, wp_tst, ktst_bl, wp_notB, wp_andB, wp_orB, wp_andV, wp_orV, wp_notV, wp_ifE, wp_drop, wp_retM, wp_retN, fr_v, fr_un, fr_ow, pl_v, pl_un, fr_pl, frO_ap, plO_ap, slot_f, slot_t, wp_put, wp_setM, wp_parM, puts_nil, puts_cons, kt_ap, wt_N, wts_nil, wts_cons, wt_T, wp_setT, wp_tg, wp_appU, kap_ap, isL_ap, kapp_ap, wp_appE, wp_setP, kset_ap, wp_setIx, wp_setQ, wp_useF, kcall_ap, kpb_ap, kpe_ap, wp_callM, kargs_ap, argsOf_nil, argsOf_cons, argOf_d, argOf_pk, karg_v, karg_ow, pks_nil, pks_d, pks_pk, kpks_ow, kpks_v, nodupN_nil, nodupN_one, nodupN_cons, pb_nil, pb_d, pb_dU, pb_pk, kpbk_ap, kr_rt, kr_nx, kre_ap, wp_runB, back_nil, back_v, back_ow, wp_forM, wp_srcV, wp_srcA, kfor_nx, kfor_ct, kfor_bk, kfor_rt, wp_forGo_nil, wb_nil, npO_ap, wb_cons, wp_lcM, klc_ap, wp_lcB, kel_ap, kco_t, kco_f, kco_d, List.getElem?_cons_zero, List.getElem?_cons_succ, List.set_cons_zero, List.set_cons_succ, List.length_cons, List.length_nil, List.length_append, List.replicate_succ, List.replicate_zero, List.cons_append, List.nil_append, if_true, if_false, ite_true, ite_false, Bool.false_eq_true, true_and, and_true, decide_eq_true_eq, Bool.not_true, Bool.not_false, Bool.not_eq_true', decide_eq_false_iff_not, reduceIte, reduceCtorEq, Nat.zero_add, Nat.reduceAdd, Nat.reduceSub, List.contains_nil, List.contains_cons, Bool.and_true, Bool.or_false, Bool.and_self, beq_self_eq_true, Nat.reduceBEq, Nat.reduceEqDiff, Nat.succ_eq_add_one, rst, List.getD_cons_zero, List.getD_cons_succ, isF, lenF, listF, tupleF, o_int, o_inti, o_addl, o_addt, o_mulb, absF, minF, maxF, sumF, seqOf, eq_self, decide_true, decide_false, not_true_eq_false, not_false_eq_true, Bool.or_true, Bool.true_or, Bool.false_or, Bool.true_and, Bool.false_and, Bool.and_false, Option.map_some, Option.map_none, bne_f, bne_t, dec_not, fr_pl, nums_int, List.length_map, o_lt, o_le, o_gt, o_ge, o_add, o_sub, o_mul, o_div, o_mod, o_pow, o_rng1, o_rng2, at_0, at_1, at_2, at_3, at_4, at_5, at_nat, ix_0, ix_1, ix_2, ix_3, idx_l, idx_t, o_eq, o_eqb, small_nil, small_c1, small_c2, small_c3, small_c4, small_c5, small_c6, o_isi, ty_int_non, ty_int_bl, ty_int_int, ty_int_str, ty_int_tup, ty_int_lst, ty_int_dic, ty_int_set, ty_bool_non, ty_bool_bl, ty_bool_int, ty_bool_str, ty_bool_tup, ty_bool_lst, ty_bool_dic, ty_bool_set, ty_str_non, ty_str_bl, ty_str_int, ty_str_str, ty_str_tup, ty_str_lst, ty_str_dic, ty_str_set, ty_tuple_non, ty_tuple_bl, ty_tuple_int, ty_tuple_str, ty_tuple_tup, ty_tuple_lst, ty_tuple_dic, ty_tuple_set, ty_list_non, ty_list_bl, ty_list_int, ty_list_str, ty_list_tup, ty_list_lst, ty_list_dic, ty_list_set, ty_dict_non, ty_dict_bl, ty_dict_int, ty_dict_str, ty_dict_tup, ty_dict_lst, ty_dict_dic, ty_dict_set, ty_set_non, ty_set_bl, ty_set_int, ty_set_str, ty_set_tup, ty_set_lst, ty_set_dic, ty_set_set]
  refine C.wp_draw hb (by decide) (by decide) (by omega) fun v b hv hb => ?_
  simp only [wp_ret, wp_stuck, wp_bnd, kb_ap, wp_lift, wo_some, wo_none, wo_ite, wo_map, wp_ite, ks_nx, ks_rt, ks_bk, ks_ct, wp_seq, wp_pk, kpk_v, kpk_ow, wp_rd, krd_v, krd_ow, wp_mv, kmv_v, kmv_ow, wp_cst, wp_use2, k2_ap, wp_op2, wp_use1, k1_ap, wp_op1, wp_useN, kN_ap, wp_opN, rsv_d, rsv_pk, ksv_v, ksv_ow, rsvs_nil, rsvs_cons, kcons_ap, wp_osN, wp_osC, wp_lsN, wp_lsC, wp_fsN, wp_fsC, wp_opd, wp_frz, wp_tupM, wp_lstM, wp_tst, ktst_bl, wp_notB, wp_andB, wp_orB, wp_andV, wp_orV, wp_notV, wp_ifE, wp_drop, wp_retM, wp_retN, fr_v, fr_un, fr_ow, pl_v, pl_un, fr_pl, frO_ap, plO_ap, slot_f, slot_t, wp_put, wp_setM, wp_parM, puts_nil, puts_cons, kt_ap, wt_N, wts_nil, wts_cons, wt_T, wp_setT, wp_tg, wp_appU, kap_ap, isL_ap, kapp_ap, wp_appE, wp_setP, kset_ap, wp_setIx, wp_setQ, wp_useF, kcall_ap, kpb_ap, kpe_ap, wp_callM, kargs_ap, argsOf_nil, argsOf_cons, argOf_d, argOf_pk, karg_v, karg_ow, pks_nil, pks_d, pks_pk, kpks_ow, kpks_v, nodupN_nil, nodupN_one, nodupN_cons, pb_nil, pb_d, pb_dU, pb_pk, kpbk_ap, kr_rt, kr_nx, kre_ap, wp_runB, back_nil, back_v, back_ow, wp_forM, wp_srcV, wp_srcA, kfor_nx, kfor_ct, kfor_bk, kfor_rt, wp_forGo_nil, wb_nil, npO_ap, wb_cons, wp_lcM, klc_ap, wp_lcB, kel_ap, kco_t, kco_f, kco_d, List.getElem?_cons_zero, List.getElem?_cons_succ, List.set_cons_zero, List.set_cons_succ, List.length_cons, List.length_nil, List.length_append, List.replicate_succ, List.replicate_zero, List.cons_append, List.nil_append, if_true, if_false, ite_true, ite_false, Bool.false_eq_true, true_and, and_true, decide_eq_true_eq, Bool.not_true, Bool.not_false, Bool.not_eq_true', decide_eq_false_iff_not, reduceIte, reduceCtorEq, Nat.zero_add, Nat.reduceAdd, Nat.reduceSub, List.contains_nil, List.contains_cons, Bool.and_true, Bool.or_false, Bool.and_self, beq_self_eq_true, Nat.reduceBEq, Nat.reduceEqDiff, Nat.succ_eq_add_one, rst, List.getD_cons_zero, List.getD_cons_succ, isF, lenF, listF, tupleF, o_int, o_inti, o_addl, o_addt, o_mulb, absF, minF, maxF, sumF, seqOf, eq_self, decide_true, decide_false, not_true_eq_false, not_false_eq_true, Bool.or_true, Bool.true_or, Bool.false_or, Bool.true_and, Bool.false_and, Bool.and_false, Option.map_some, Option.map_none, bne_f, bne_t, dec_not, fr_pl, nums_int, List.length_map, o_lt, o_le, o_gt, o_ge, o_add, o_sub, o_mul, o_div, o_mod, o_pow, o_rng1, o_rng2, at_0, at_1, at_2, at_3, at_4, at_5, at_nat, ix_0, ix_1, ix_2, ix_3, idx_l, idx_t, o_eq, o_eqb, small_nil, small_c1, small_c2, small_c3, small_c4, small_c5, small_c6, o_isi, ty_int_non, ty_int_bl, ty_int_int, ty_int_str, ty_int_tup, ty_int_lst, ty_int_dic, ty_int_set, ty_bool_non, ty_bool_bl, ty_bool_int, ty_bool_str, ty_bool_tup, ty_bool_lst, ty_bool_dic, ty_bool_set, ty_str_non, ty_str_bl, ty_str_int, ty_str_str, ty_str_tup, ty_str_lst, ty_str_dic, ty_str_set, ty_tuple_non, ty_tuple_bl, ty_tuple_int, ty_tuple_str, ty_tuple_tup, ty_tuple_lst, ty_tuple_dic, ty_tuple_set, ty_list_non, ty_list_bl, ty_list_int, ty_list_str, ty_list_tup, ty_list_lst, ty_list_dic, ty_list_set, ty_dict_non, ty_dict_bl, ty_dict_int, ty_dict_str, ty_dict_tup, ty_dict_lst, ty_dict_dic, ty_dict_set, ty_set_non, ty_set_bl, ty_set_int, ty_set_str, ty_set_tup, ty_set_lst, ty_set_dic, ty_set_set, hx3]
  refine ⟨inB_of (by omega) (by omega), ?_⟩
  refine wp_for (fun i st => ∃ x6, st = [.v (.lst (ns.map .int)), .ow false (C.boxD b), .v (.int (n : Int)), .v (.int ((u ^ i : Nat) : Int)), x4, .ow false (.lst ((rowN n).map natD)), x6, .un, .un, x9, .v (.lst (l.map natD)), .v (.int (w : Int)), .v (.int (t : Int)), .v (.lst (q.map natD)), .v (.int (s : Int)), .v (.int (o : Int)), .v (.lst (RS.map encR)), x17, x18, x19, x20, x21, .un, .v (.int (u : Int)), .v (.int (v : Int))] ∧ pl x6 = true) ⟨_, rfl, hx6⟩ (fun i d st e h => ?_) fun st h => ?_
  · obtain ⟨x6, rfl, hx6⟩ := h
    obtain ⟨hi, rfl⟩ := intsF_get0 e
    simp only [wp_ret, wp_stuck, wp_bnd, kb_ap, wp_lift, wo_some, wo_none, wo_ite, wo_map, wp_ite, ks_nx, ks_rt, ks_bk, ks_ct, wp_seq, wp_pk, kpk_v, kpk_ow, wp_rd, krd_v, krd_ow, wp_mv, kmv_v, kmv_ow, wp_cst, wp_use2, k2_ap, wp_op2, wp_use1, k1_ap, wp_op1, wp_useN, kN_ap, wp_opN, rsv_d, rsv_pk, ksv_v, ksv_ow, rsvs_nil, rsvs_cons, kcons_ap, wp_osN, wp_osC, wp_lsN, wp_lsC, wp_fsN, wp_fsC, wp_opd, wp_frz, wp_tupM, wp_lstM, wp_tst, ktst_bl, wp_notB, wp_andB, wp_orB, wp_andV, wp_orV, wp_notV, wp_ifE, wp_drop, wp_retM, wp_retN, fr_v, fr_un, fr_ow, pl_v, pl_un, fr_pl, frO_ap, plO_ap, slot_f, slot_t, wp_put, wp_setM, wp_parM, puts_nil, puts_cons, kt_ap, wt_N, wts_nil, wts_cons, wt_T, wp_setT, wp_tg, wp_appU, kap_ap, isL_ap, kapp_ap, wp_appE, wp_setP, kset_ap, wp_setIx, wp_setQ, wp_useF, kcall_ap, kpb_ap, kpe_ap, wp_callM, kargs_ap, argsOf_nil, argsOf_cons, argOf_d, argOf_pk, karg_v, karg_ow, pks_nil, pks_d, pks_pk, kpks_ow, kpks_v, nodupN_nil, nodupN_one, nodupN_cons, pb_nil, pb_d, pb_dU, pb_pk, kpbk_ap, kr_rt, kr_nx, kre_ap, wp_runB, back_nil, back_v, back_ow, wp_forM, wp_srcV, wp_srcA, kfor_nx, kfor_ct, kfor_bk, kfor_rt, wp_forGo_nil, wb_nil, npO_ap, wb_cons, wp_lcM, klc_ap, wp_lcB, kel_ap, kco_t, kco_f, kco_d, List.getElem?_cons_zero, List.getElem?_cons_succ, List.set_cons_zero, List.set_cons_succ, List.length_cons, List.length_nil, List.length_append, List.replicate_succ, List.replicate_zero, List.cons_append, List.nil_append, if_true, if_false, ite_true, ite_false, Bool.false_eq_true, true_and, and_true, decide_eq_true_eq, Bool.not_true, Bool.not_false, Bool.not_eq_true', decide_eq_false_iff_not, reduceIte, reduceCtorEq, Nat.zero_add, Nat.reduceAdd, Nat.reduceSub, List.contains_nil, List.contains_cons, Bool.and_true, Bool.or_false, Bool.and_self, beq_self_eq_true, Nat.reduceBEq, Nat.reduceEqDiff, Nat.succ_eq_add_one, rst, List.getD_cons_zero, List.getD_cons_succ, isF, lenF, listF, tupleF, o_int, o_inti, o_addl, o_addt, o_mulb, absF, minF, maxF, sumF, seqOf, eq_self, decide_true, decide_false, not_true_eq_false, not_false_eq_true, Bool.or_true, Bool.true_or, Bool.false_or, Bool.true_and, Bool.false_and, Bool.and_false, Option.map_some, Option.map_none, bne_f, bne_t, dec_not, fr_pl, nums_int, List.length_map, o_lt, o_le, o_gt, o_ge, o_add, o_sub, o_mul, o_div, o_mod, o_pow, o_rng1, o_rng2, at_0, at_1, at_2, at_3, at_4, at_5, at_nat, ix_0, ix_1, ix_2, ix_3, idx_l, idx_t, o_eq, o_eqb, small_nil, small_c1, small_c2, small_c3, small_c4, small_c5, small_c6, o_isi, ty_int_non, ty_int_bl, ty_int_int, ty_int_str, ty_int_tup, ty_int_lst, ty_int_dic, ty_int_set, ty_bool_non, ty_bool_bl, ty_bool_int, ty_bool_str, ty_bool_tup, ty_bool_lst, ty_bool_dic, ty_bool_set, ty_str_non, ty_str_bl, ty_str_int, ty_str_str, ty_str_tup, ty_str_lst, ty_str_dic, ty_str_set, ty_tuple_non, ty_tuple_bl, ty_tuple_int, ty_tuple_str, ty_tuple_tup, ty_tuple_lst, ty_tuple_dic, ty_tuple_set, ty_list_non, ty_list_bl, ty_list_int, ty_list_str, ty_list_tup, ty_list_lst, ty_list_dic, ty_list_set, ty_dict_non, ty_dict_bl, ty_dict_int, ty_dict_str, ty_dict_tup, ty_dict_lst, ty_dict_dic, ty_dict_set, ty_set_non, ty_set_bl, ty_set_int, ty_set_str, ty_set_tup, ty_set_lst, ty_set_dic, ty_set_set, hx6]
    refine ⟨?_, _, by rw [Nat.pow_succ, Int.natCast_mul], rfl⟩
    have h1 : u ^ i ≤ 2 ^ (4 * i) := by
      rw [Nat.pow_mul]
      exact Nat.pow_le_pow_left (by omega) i
    exact mulOk_nat h1 (by omega) (sm1500 (by omega))
  obtain ⟨x6, rfl, hx6⟩ := h
  rw [intsF_len, Int.toNat_natCast]
  simp only [wp_ret, wp_stuck, wp_bnd, kb_ap, wp_lift, wo_some, wo_none, wo_ite, wo_map, wp_ite, ks_nx, ks_rt, ks_bk, ks_ct, wp_seq, wp_pk, kpk_v, kpk_ow, wp_rd, krd_v, krd_ow, wp_mv, kmv_v, kmv_ow, wp_cst, wp_use2, k2_ap, wp_op2, wp_use1, k1_ap, wp_op1, wp_useN, kN_ap, wp_opN, rsv_d, rsv_pk, ksv_v, ksv_ow, rsvs_nil, rsvs_cons, kcons_ap, wp_osN, wp_osC, wp_lsN, wp_lsC, wp_fsN, wp_fsC, wp_opd, wp_frz, wp_tupM, wp_lstM, wp_tst, ktst_bl, wp_notB, wp_andB, wp_orB, wp_andV, wp_orV, wp_notV, wp_ifE, wp_drop, wp_retM, wp_retN, fr_v, fr_un, fr_ow, pl_v, pl_un, fr_pl, frO_ap, plO_ap, slot_f, slot_t, wp_put, wp_setM, wp_parM, puts_nil, puts_cons, kt_ap, wt_N, wts_nil, wts_cons, wt_T, wp_setT, wp_tg, wp_appU, kap_ap, isL_ap, kapp_ap, wp_appE, wp_setP, kset_ap, wp_setIx, wp_setQ, wp_useF, kcall_ap, kpb_ap, kpe_ap, wp_callM, kargs_ap, argsOf_nil, argsOf_cons, argOf_d, argOf_pk, karg_v, karg_ow, pks_nil, pks_d, pks_pk, kpks_ow, kpks_v, nodupN_nil, nodupN_one, nodupN_cons, pb_nil, pb_d, pb_dU, pb_pk, kpbk_ap, kr_rt, kr_nx, kre_ap, wp_runB, back_nil, back_v, back_ow, wp_forM, wp_srcV, wp_srcA, kfor_nx, kfor_ct, kfor_bk, kfor_rt, wp_forGo_nil, wb_nil, npO_ap, wb_cons, wp_lcM, klc_ap, wp_lcB, kel_ap, kco_t, kco_f, kco_d, List.getElem?_cons_zero, List.getElem?_cons_succ, List.set_cons_zero, List.set_cons_succ, List.length_cons, List.length_nil, List.length_append, List.replicate_succ, List.replicate_zero, List.cons_append, List.nil_append, if_true, if_false, ite_true, ite_false, Bool.false_eq_true, true_and, and_true, decide_eq_true_eq, Bool.not_true, Bool.not_false, Bool.not_eq_true', decide_eq_false_iff_not, reduceIte, reduceCtorEq, Nat.zero_add, Nat.reduceAdd, Nat.reduceSub, List.contains_nil, List.contains_cons, Bool.and_true, Bool.or_false, Bool.and_self, beq_self_eq_true, Nat.reduceBEq, Nat.reduceEqDiff, Nat.succ_eq_add_one, rst, List.getD_cons_zero, List.getD_cons_succ, isF, lenF, listF, tupleF, o_int, o_inti, o_addl, o_addt, o_mulb, absF, minF, maxF, sumF, seqOf, eq_self, decide_true, decide_false, not_true_eq_false, not_false_eq_true, Bool.or_true, Bool.true_or, Bool.false_or, Bool.true_and, Bool.false_and, Bool.and_false, Option.map_some, Option.map_none, bne_f, bne_t, dec_not, fr_pl, nums_int, List.length_map, o_lt, o_le, o_gt, o_ge, o_add, o_sub, o_mul, o_div, o_mod, o_pow, o_rng1, o_rng2, at_0, at_1, at_2, at_3, at_4, at_5, at_nat, ix_0, ix_1, ix_2, ix_3, idx_l, idx_t, o_eq, o_eqb, small_nil, small_c1, small_c2, small_c3, small_c4, small_c5, small_c6, o_isi, ty_int_non, ty_int_bl, ty_int_int, ty_int_str, ty_int_tup, ty_int_lst, ty_int_dic, ty_int_set, ty_bool_non, ty_bool_bl, ty_bool_int, ty_bool_str, ty_bool_tup, ty_bool_lst, ty_bool_dic, ty_bool_set, ty_str_non, ty_str_bl, ty_str_int, ty_str_str, ty_str_tup, ty_str_lst, ty_str_dic, ty_str_set, ty_tuple_non, ty_tuple_bl, ty_tuple_int, ty_tuple_str, ty_tuple_tup, ty_tuple_lst, ty_tuple_dic, ty_tuple_set, ty_list_non, ty_list_bl, ty_list_int, ty_list_str, ty_list_tup, ty_list_lst, ty_list_dic, ty_list_set, ty_dict_non, ty_dict_bl, ty_dict_int, ty_dict_str, ty_dict_tup, ty_dict_lst, ty_dict_dic, ty_dict_set, ty_set_non, ty_set_bl, ty_set_int, ty_set_str, ty_set_tup, ty_set_lst, ty_set_dic, ty_set_set]
  refine wp_power (by omega) (by omega) ?_
  simp only [wp_ret, wp_stuck, wp_bnd, kb_ap, wp_lift, wo_some, wo_none, wo_ite, wo_map, wp_ite, ks_nx, ks_rt, ks_bk, ks_ct, wp_seq, wp_pk, kpk_v, kpk_ow, wp_rd, krd_v, krd_ow, wp_mv, kmv_v, kmv_ow, wp_cst, wp_use2, k2_ap, wp_op2, wp_use1, k1_ap, wp_op1, wp_useN, kN_ap, wp_opN, rsv_d, rsv_pk, ksv_v, ksv_ow, rsvs_nil, rsvs_cons, kcons_ap, wp_osN, wp_osC, wp_lsN, wp_lsC, wp_fsN, wp_fsC, wp_opd, wp_frz, wp_tupM, wp_lstM, wp_tst, ktst_bl, wp_notB, wp_andB, wp_orB, wp_andV, wp_orV, wp_notV, wp_ifE, wp_drop, wp_retM, wp_retN, fr_v, fr_un, fr_ow, pl_v, pl_un, fr_pl, frO_ap, plO_ap, slot_f, slot_t, wp_put, wp_setM, wp_parM, puts_nil, puts_cons, kt_ap, wt_N, wts_nil, wts_cons, wt_T, wp_setT, wp_tg, wp_appU, kap_ap, isL_ap, kapp_ap, wp_appE, wp_setP, kset_ap, wp_setIx, wp_setQ, wp_useF, kcall_ap, kpb_ap, kpe_ap, wp_callM, kargs_ap, argsOf_nil, argsOf_cons, argOf_d, argOf_pk, karg_v, karg_ow, pks_nil, pks_d, pks_pk, kpks_ow, kpks_v, nodupN_nil, nodupN_one, nodupN_cons, pb_nil, pb_d, pb_dU, pb_pk, kpbk_ap, kr_rt, kr_nx, kre_ap, wp_runB, back_nil, back_v, back_ow, wp_forM, wp_srcV, wp_srcA, kfor_nx, kfor_ct, kfor_bk, kfor_rt, wp_forGo_nil, wb_nil, npO_ap, wb_cons, wp_lcM, klc_ap, wp_lcB, kel_ap, kco_t, kco_f, kco_d, List.getElem?_cons_zero, List.getElem?_cons_succ, List.set_cons_zero, List.set_cons_succ, List.length_cons, List.length_nil, List.length_append, List.replicate_succ, List.replicate_zero, List.cons_append, List.nil_append, if_true, if_false, ite_true, ite_false, Bool.false_eq_true, true_and, and_true, decide_eq_true_eq, Bool.not_true, Bool.not_false, Bool.not_eq_true', decide_eq_false_iff_not, reduceIte, reduceCtorEq, Nat.zero_add, Nat.reduceAdd, Nat.reduceSub, List.contains_nil, List.contains_cons, Bool.and_true, Bool.or_false, Bool.and_self, beq_self_eq_true, Nat.reduceBEq, Nat.reduceEqDiff, Nat.succ_eq_add_one, rst, List.getD_cons_zero, List.getD_cons_succ, isF, lenF, listF, tupleF, o_int, o_inti, o_addl, o_addt, o_mulb, absF, minF, maxF, sumF, seqOf, eq_self, decide_true, decide_false, not_true_eq_false, not_false_eq_true, Bool.or_true, Bool.true_or, Bool.false_or, Bool.true_and, Bool.false_and, Bool.and_false, Option.map_some, Option.map_none, bne_f, bne_t, dec_not, fr_pl, nums_int, List.length_map, o_lt, o_le, o_gt, o_ge, o_add, o_sub, o_mul, o_div, o_mod, o_pow, o_rng1, o_rng2, at_0, at_1, at_2, at_3, at_4, at_5, at_nat, ix_0, ix_1, ix_2, ix_3, idx_l, idx_t, o_eq, o_eqb, small_nil, small_c1, small_c2, small_c3, small_c4, small_c5, small_c6, o_isi, ty_int_non, ty_int_bl, ty_int_int, ty_int_str, ty_int_tup, ty_int_lst, ty_int_dic, ty_int_set, ty_bool_non, ty_bool_bl, ty_bool_int, ty_bool_str, ty_bool_tup, ty_bool_lst, ty_bool_dic, ty_bool_set, ty_str_non, ty_str_bl, ty_str_int, ty_str_str, ty_str_tup, ty_str_lst, ty_str_dic, ty_str_set, ty_tuple_non, ty_tuple_bl, ty_tuple_int, ty_tuple_str, ty_tuple_tup, ty_tuple_lst, ty_tuple_dic, ty_tuple_set, ty_list_non, ty_list_bl, ty_list_int, ty_list_str, ty_list_tup, ty_list_lst, ty_list_dic, ty_list_set, ty_dict_non, ty_dict_bl, ty_dict_int, ty_dict_str, ty_dict_tup, ty_dict_lst, ty_dict_dic, ty_dict_set, ty_set_non, ty_set_bl, ty_set_int, ty_set_str, ty_set_tup, ty_set_lst, ty_set_dic, ty_set_set]
  refine wp_sameI rfl plain_int ?_
  simp only [wp_ret, wp_stuck, wp_bnd, kb_ap, wp_lift, wo_some, wo_none, wo_ite, wo_map, wp_ite, ks_nx, ks_rt, ks_bk, ks_ct, wp_seq, wp_pk, kpk_v, kpk_ow, wp_rd, krd_v, krd_ow, wp_mv, kmv_v, kmv_ow, wp_cst, wp_use2, k2_ap, wp_op2, wp_use1, k1_ap, wp_op1, wp_useN, kN_ap, wp_opN, rsv_d, rsv_pk, ksv_v, ksv_ow, rsvs_nil, rsvs_cons, kcons_ap, wp_osN, wp_osC, wp_lsN, wp_lsC, wp_fsN, wp_fsC, wp_opd, wp_frz, wp_tupM, wp_lstM, wp_tst, ktst_bl, wp_notB, wp_andB, wp_orB, wp_andV, wp_orV, wp_notV, wp_ifE, wp_drop, wp_retM, wp_retN, fr_v, fr_un, fr_ow, pl_v, pl_un, fr_pl, frO_ap, plO_ap, slot_f, slot_t, wp_put, wp_setM, wp_parM, puts_nil, puts_cons, kt_ap, wt_N, wts_nil, wts_cons, wt_T, wp_setT, wp_tg, wp_appU, kap_ap, isL_ap, kapp_ap, wp_appE, wp_setP, kset_ap, wp_setIx, wp_setQ, wp_useF, kcall_ap, kpb_ap, kpe_ap, wp_callM, kargs_ap, argsOf_nil, argsOf_cons, argOf_d, argOf_pk, karg_v, karg_ow, pks_nil, pks_d, pks_pk, kpks_ow, kpks_v, nodupN_nil, nodupN_one, nodupN_cons, pb_nil, pb_d, pb_dU, pb_pk, kpbk_ap, kr_rt, kr_nx, kre_ap, wp_runB, back_nil, back_v, back_ow, wp_forM, wp_srcV, wp_srcA, kfor_nx, kfor_ct, kfor_bk, kfor_rt, wp_forGo_nil, wb_nil, npO_ap, wb_cons, wp_lcM, klc_ap, wp_lcB, kel_ap, kco_t, kco_f, kco_d, List.getElem?_cons_zero, List.getElem?_cons_succ, List.set_cons_zero, List.set_cons_succ, List.length_cons, List.length_nil, List.length_append, List.replicate_succ, List.replicate_zero, List.cons_append, List.nil_append, if_true, if_false, ite_true, ite_false, Bool.false_eq_true, true_and, and_true, decide_eq_true_eq, Bool.not_true, Bool.not_false, Bool.not_eq_true', decide_eq_false_iff_not, reduceIte, reduceCtorEq, Nat.zero_add, Nat.reduceAdd, Nat.reduceSub, List.contains_nil, List.contains_cons, Bool.and_true, Bool.or_false, Bool.and_self, beq_self_eq_true, Nat.reduceBEq, Nat.reduceEqDiff, Nat.succ_eq_add_one, rst, List.getD_cons_zero, List.getD_cons_succ, isF, lenF, listF, tupleF, o_int, o_inti, o_addl, o_addt, o_mulb, absF, minF, maxF, sumF, seqOf, eq_self, decide_true, decide_false, not_true_eq_false, not_false_eq_true, Bool.or_true, Bool.true_or, Bool.false_or, Bool.true_and, Bool.false_and, Bool.and_false, Option.map_some, Option.map_none, bne_f, bne_t, dec_not, fr_pl, nums_int, List.length_map, o_lt, o_le, o_gt, o_ge, o_add, o_sub, o_mul, o_div, o_mod, o_pow, o_rng1, o_rng2, at_0, at_1, at_2, at_3, at_4, at_5, at_nat, ix_0, ix_1, ix_2, ix_3, idx_l, idx_t, o_eq, o_eqb, small_nil, small_c1, small_c2, small_c3, small_c4, small_c5, small_c6, o_isi, ty_int_non, ty_int_bl, ty_int_int, ty_int_str, ty_int_tup, ty_int_lst, ty_int_dic, ty_int_set, ty_bool_non, ty_bool_bl, ty_bool_int, ty_bool_str, ty_bool_tup, ty_bool_lst, ty_bool_dic, ty_bool_set, ty_str_non, ty_str_bl, ty_str_int, ty_str_str, ty_str_tup, ty_str_lst, ty_str_dic, ty_str_set, ty_tuple_non, ty_tuple_bl, ty_tuple_int, ty_tuple_str, ty_tuple_tup, ty_tuple_lst, ty_tuple_dic, ty_tuple_set, ty_list_non, ty_list_bl, ty_list_int, ty_list_str, ty_list_tup, ty_list_lst, ty_list_dic, ty_list_set, ty_dict_non, ty_dict_bl, ty_dict_int, ty_dict_str, ty_dict_tup, ty_dict_lst, ty_dict_dic, ty_dict_set, ty_set_non, ty_set_bl, ty_set_int, ty_set_str, ty_set_tup, ty_set_lst, ty_set_dic, ty_set_set]
  refine wp_mixtures (ns := []) (by decide) (by simp) ?_
  simp only [wp_ret, wp_stuck, wp_bnd, kb_ap, wp_lift, wo_some, wo_none, wo_ite, wo_map, wp_ite, ks_nx, ks_rt, ks_bk, ks_ct, wp_seq, wp_pk, kpk_v, kpk_ow, wp_rd, krd_v, krd_ow, wp_mv, kmv_v, kmv_ow, wp_cst, wp_use2, k2_ap, wp_op2, wp_use1, k1_ap, wp_op1, wp_useN, kN_ap, wp_opN, rsv_d, rsv_pk, ksv_v, ksv_ow, rsvs_nil, rsvs_cons, kcons_ap, wp_osN, wp_osC, wp_lsN, wp_lsC, wp_fsN, wp_fsC, wp_opd, wp_frz, wp_tupM, wp_lstM, wp_tst, ktst_bl, wp_notB, wp_andB, wp_orB, wp_andV, wp_orV, wp_notV, wp_ifE, wp_drop, wp_retM, wp_retN, fr_v, fr_un, fr_ow, pl_v, pl_un, fr_pl, frO_ap, plO_ap, slot_f, slot_t, wp_put, wp_setM, wp_parM, puts_nil, puts_cons, kt_ap, wt_N, wts_nil, wts_cons, wt_T, wp_setT, wp_tg, wp_appU, kap_ap, isL_ap, kapp_ap, wp_appE, wp_setP, kset_ap, wp_setIx, wp_setQ, wp_useF, kcall_ap, kpb_ap, kpe_ap, wp_callM, kargs_ap, argsOf_nil, argsOf_cons, argOf_d, argOf_pk, karg_v, karg_ow, pks_nil, pks_d, pks_pk, kpks_ow, kpks_v, nodupN_nil, nodupN_one, nodupN_cons, pb_nil, pb_d, pb_dU, pb_pk, kpbk_ap, kr_rt, kr_nx, kre_ap, wp_runB, back_nil, back_v, back_ow, wp_forM, wp_srcV, wp_srcA, kfor_nx, kfor_ct, kfor_bk, kfor_rt, wp_forGo_nil, wb_nil, npO_ap, wb_cons, wp_lcM, klc_ap, wp_lcB, kel_ap, kco_t, kco_f, kco_d, List.getElem?_cons_zero, List.getElem?_cons_succ, List.set_cons_zero, List.set_cons_succ, List.length_cons, List.length_nil, List.length_append, List.replicate_succ, List.replicate_zero, List.cons_append, List.nil_append, if_true, if_false, ite_true, ite_false, Bool.false_eq_true, true_and, and_true, decide_eq_true_eq, Bool.not_true, Bool.not_false, Bool.not_eq_true', decide_eq_false_iff_not, reduceIte, reduceCtorEq, Nat.zero_add, Nat.reduceAdd, Nat.reduceSub, List.contains_nil, List.contains_cons, Bool.and_true, Bool.or_false, Bool.and_self, beq_self_eq_true, Nat.reduceBEq, Nat.reduceEqDiff, Nat.succ_eq_add_one, rst, List.getD_cons_zero, List.getD_cons_succ, isF, lenF, listF, tupleF, o_int, o_inti, o_addl, o_addt, o_mulb, absF, minF, maxF, sumF, seqOf, eq_self, decide_true, decide_false, not_true_eq_false, not_false_eq_true, Bool.or_true, Bool.true_or, Bool.false_or, Bool.true_and, Bool.false_and, Bool.and_false, Option.map_some, Option.map_none, bne_f, bne_t, dec_not, fr_pl, nums_int, List.length_map, o_lt, o_le, o_gt, o_ge, o_add, o_sub, o_mul, o_div, o_mod, o_pow, o_rng1, o_rng2, at_0, at_1, at_2, at_3, at_4, at_5, at_nat, ix_0, ix_1, ix_2, ix_3, idx_l, idx_t, o_eq, o_eqb, small_nil, small_c1, small_c2, small_c3, small_c4, small_c5, small_c6, o_isi, ty_int_non, ty_int_bl, ty_int_int, ty_int_str, ty_int_tup, ty_int_lst, ty_int_dic, ty_int_set, ty_bool_non, ty_bool_bl, ty_bool_int, ty_bool_str, ty_bool_tup, ty_bool_lst, ty_bool_dic, ty_bool_set, ty_str_non, ty_str_bl, ty_str_int, ty_str_str, ty_str_tup, ty_str_lst, ty_str_dic, ty_str_set, ty_tuple_non, ty_tuple_bl, ty_tuple_int, ty_tuple_str, ty_tuple_tup, ty_tuple_lst, ty_tuple_dic, ty_tuple_set, ty_list_non, ty_list_bl, ty_list_int, ty_list_str, ty_list_tup, ty_list_lst, ty_list_dic, ty_list_set, ty_dict_non, ty_dict_bl, ty_dict_int, ty_dict_str, ty_dict_tup, ty_dict_lst, ty_dict_dic, ty_dict_set, ty_set_non, ty_set_bl, ty_set_int, ty_set_str, ty_set_tup, ty_set_lst, ty_set_dic, ty_set_set, natD, mixA, Int.natCast_one]
  refine wp_factorial (n := 0) (by decide) ?_
  simp only [wp_ret, wp_stuck, wp_bnd, kb_ap, wp_lift, wo_some, wo_none, wo_ite, wo_map, wp_ite, ks_nx, ks_rt, ks_bk, ks_ct, wp_seq, wp_pk, kpk_v, kpk_ow, wp_rd, krd_v, krd_ow, wp_mv, kmv_v, kmv_ow, wp_cst, wp_use2, k2_ap, wp_op2, wp_use1, k1_ap, wp_op1, wp_useN, kN_ap, wp_opN, rsv_d, rsv_pk, ksv_v, ksv_ow, rsvs_nil, rsvs_cons, kcons_ap, wp_osN, wp_osC, wp_lsN, wp_lsC, wp_fsN, wp_fsC, wp_opd, wp_frz, wp_tupM, wp_lstM, wp_tst, ktst_bl, wp_notB, wp_andB, wp_orB, wp_andV, wp_orV, wp_notV, wp_ifE, wp_drop, wp_retM, wp_retN, fr_v, fr_un, fr_ow, pl_v, pl_un, fr_pl, frO_ap, plO_ap, slot_f, slot_t, wp_put, wp_setM, wp_parM, puts_nil, puts_cons, kt_ap, wt_N, wts_nil, wts_cons, wt_T, wp_setT, wp_tg, wp_appU, kap_ap, isL_ap, kapp_ap, wp_appE, wp_setP, kset_ap, wp_setIx, wp_setQ, wp_useF, kcall_ap, kpb_ap, kpe_ap, wp_callM, kargs_ap, argsOf_nil, argsOf_cons, argOf_d, argOf_pk, karg_v, karg_ow, pks_nil, pks_d, pks_pk, kpks_ow, kpks_v, nodupN_nil, nodupN_one, nodupN_cons, pb_nil, pb_d, pb_dU, pb_pk, kpbk_ap, kr_rt, kr_nx, kre_ap, wp_runB, back_nil, back_v, back_ow, wp_forM, wp_srcV, wp_srcA, kfor_nx, kfor_ct, kfor_bk, kfor_rt, wp_forGo_nil, wb_nil, npO_ap, wb_cons, wp_lcM, klc_ap, wp_lcB, kel_ap, kco_t, kco_f, kco_d, List.getElem?_cons_zero, List.getElem?_cons_succ, List.set_cons_zero, List.set_cons_succ, List.length_cons, List.length_nil, List.length_append, List.replicate_succ, List.replicate_zero, List.cons_append, List.nil_append, if_true, if_false, ite_true, ite_false, Bool.false_eq_true, true_and, and_true, decide_eq_true_eq, Bool.not_true, Bool.not_false, Bool.not_eq_true', decide_eq_false_iff_not, reduceIte, reduceCtorEq, Nat.zero_add, Nat.reduceAdd, Nat.reduceSub, List.contains_nil, List.contains_cons, Bool.and_true, Bool.or_false, Bool.and_self, beq_self_eq_true, Nat.reduceBEq, Nat.reduceEqDiff, Nat.succ_eq_add_one, rst, List.getD_cons_zero, List.getD_cons_succ, isF, lenF, listF, tupleF, o_int, o_inti, o_addl, o_addt, o_mulb, absF, minF, maxF, sumF, seqOf, eq_self, decide_true, decide_false, not_true_eq_false, not_false_eq_true, Bool.or_true, Bool.true_or, Bool.false_or, Bool.true_and, Bool.false_and, Bool.and_false, Option.map_some, Option.map_none, bne_f, bne_t, dec_not, fr_pl, nums_int, List.length_map, o_lt, o_le, o_gt, o_ge, o_add, o_sub, o_mul, o_div, o_mod, o_pow, o_rng1, o_rng2, at_0, at_1, at_2, at_3, at_4, at_5, at_nat, ix_0, ix_1, ix_2, ix_3, idx_l, idx_t, o_eq, o_eqb, small_nil, small_c1, small_c2, small_c3, small_c4, small_c5, small_c6, o_isi, ty_int_non, ty_int_bl, ty_int_int, ty_int_str, ty_int_tup, ty_int_lst, ty_int_dic, ty_int_set, ty_bool_non, ty_bool_bl, ty_bool_int, ty_bool_str, ty_bool_tup, ty_bool_lst, ty_bool_dic, ty_bool_set, ty_str_non, ty_str_bl, ty_str_int, ty_str_str, ty_str_tup, ty_str_lst, ty_str_dic, ty_str_set, ty_tuple_non, ty_tuple_bl, ty_tuple_int, ty_tuple_str, ty_tuple_tup, ty_tuple_lst, ty_tuple_dic, ty_tuple_set, ty_list_non, ty_list_bl, ty_list_int, ty_list_str, ty_list_tup, ty_list_lst, ty_list_dic, ty_list_set, ty_dict_non, ty_dict_bl, ty_dict_int, ty_dict_str, ty_dict_tup, ty_dict_lst, ty_dict_dic, ty_dict_set, ty_set_non, ty_set_bl, ty_set_int, ty_set_str, ty_set_tup, ty_set_lst, ty_set_dic, ty_set_set, fct, Int.natCast_one]
  refine wp_rises (ns := []) (by decide) ?_
  simp only [wp_ret, wp_stuck, wp_bnd, kb_ap, wp_lift, wo_some, wo_none, wo_ite, wo_map, wp_ite, ks_nx, ks_rt, ks_bk, ks_ct, wp_seq, wp_pk, kpk_v, kpk_ow, wp_rd, krd_v, krd_ow, wp_mv, kmv_v, kmv_ow, wp_cst, wp_use2, k2_ap, wp_op2, wp_use1, k1_ap, wp_op1, wp_useN, kN_ap, wp_opN, rsv_d, rsv_pk, ksv_v, ksv_ow, rsvs_nil, rsvs_cons, kcons_ap, wp_osN, wp_osC, wp_lsN, wp_lsC, wp_fsN, wp_fsC, wp_opd, wp_frz, wp_tupM, wp_lstM, wp_tst, ktst_bl, wp_notB, wp_andB, wp_orB, wp_andV, wp_orV, wp_notV, wp_ifE, wp_drop, wp_retM, wp_retN, fr_v, fr_un, fr_ow, pl_v, pl_un, fr_pl, frO_ap, plO_ap, slot_f, slot_t, wp_put, wp_setM, wp_parM, puts_nil, puts_cons, kt_ap, wt_N, wts_nil, wts_cons, wt_T, wp_setT, wp_tg, wp_appU, kap_ap, isL_ap, kapp_ap, wp_appE, wp_setP, kset_ap, wp_setIx, wp_setQ, wp_useF, kcall_ap, kpb_ap, kpe_ap, wp_callM, kargs_ap, argsOf_nil, argsOf_cons, argOf_d, argOf_pk, karg_v, karg_ow, pks_nil, pks_d, pks_pk, kpks_ow, kpks_v, nodupN_nil, nodupN_one, nodupN_cons, pb_nil, pb_d, pb_dU, pb_pk, kpbk_ap, kr_rt, kr_nx, kre_ap, wp_runB, back_nil, back_v, back_ow, wp_forM, wp_srcV, wp_srcA, kfor_nx, kfor_ct, kfor_bk, kfor_rt, wp_forGo_nil, wb_nil, npO_ap, wb_cons, wp_lcM, klc_ap, wp_lcB, kel_ap, kco_t, kco_f, kco_d, List.getElem?_cons_zero, List.getElem?_cons_succ, List.set_cons_zero, List.set_cons_succ, List.length_cons, List.length_nil, List.length_append, List.replicate_succ, List.replicate_zero, List.cons_append, List.nil_append, if_true, if_false, ite_true, ite_false, Bool.false_eq_true, true_and, and_true, decide_eq_true_eq, Bool.not_true, Bool.not_false, Bool.not_eq_true', decide_eq_false_iff_not, reduceIte, reduceCtorEq, Nat.zero_add, Nat.reduceAdd, Nat.reduceSub, List.contains_nil, List.contains_cons, Bool.and_true, Bool.or_false, Bool.and_self, beq_self_eq_true, Nat.reduceBEq, Nat.reduceEqDiff, Nat.succ_eq_add_one, rst, List.getD_cons_zero, List.getD_cons_succ, isF, lenF, listF, tupleF, o_int, o_inti, o_addl, o_addt, o_mulb, absF, minF, maxF, sumF, seqOf, eq_self, decide_true, decide_false, not_true_eq_false, not_false_eq_true, Bool.or_true, Bool.true_or, Bool.false_or, Bool.true_and, Bool.false_and, Bool.and_false, Option.map_some, Option.map_none, bne_f, bne_t, dec_not, fr_pl, nums_int, List.length_map, o_lt, o_le, o_gt, o_ge, o_add, o_sub, o_mul, o_div, o_mod, o_pow, o_rng1, o_rng2, at_0, at_1, at_2, at_3, at_4, at_5, at_nat, ix_0, ix_1, ix_2, ix_3, idx_l, idx_t, o_eq, o_eqb, small_nil, small_c1, small_c2, small_c3, small_c4, small_c5, small_c6, o_isi, ty_int_non, ty_int_bl, ty_int_int, ty_int_str, ty_int_tup, ty_int_lst, ty_int_dic, ty_int_set, ty_bool_non, ty_bool_bl, ty_bool_int, ty_bool_str, ty_bool_tup, ty_bool_lst, ty_bool_dic, ty_bool_set, ty_str_non, ty_str_bl, ty_str_int, ty_str_str, ty_str_tup, ty_str_lst, ty_str_dic, ty_str_set, ty_tuple_non, ty_tuple_bl, ty_tuple_int, ty_tuple_str, ty_tuple_tup, ty_tuple_lst, ty_tuple_dic, ty_tuple_set, ty_list_non, ty_list_bl, ty_list_int, ty_list_str, ty_list_tup, ty_list_lst, ty_list_dic, ty_list_set, ty_dict_non, ty_dict_bl, ty_dict_int, ty_dict_str, ty_dict_tup, ty_dict_lst, ty_dict_dic, ty_dict_set, ty_set_non, ty_set_bl, ty_set_int, ty_set_str, ty_set_tup, ty_set_lst, ty_set_dic, ty_set_set, sumsA, List.map_nil]
  have e0 : eqF false (.lst []) (.lst []) = some (.bl true, false) := C.eqF_self (neg := false) (d := .lst []) (plain_nats []) (by decide)
  simp only [wp_ret, wp_stuck, wp_bnd, kb_ap, wp_lift, wo_some, wo_none, wo_ite, wo_map, wp_ite, ks_nx, ks_rt, ks_bk, ks_ct, wp_seq, wp_pk, kpk_v, kpk_ow, wp_rd, krd_v, krd_ow, wp_mv, kmv_v, kmv_ow, wp_cst, wp_use2, k2_ap, wp_op2, wp_use1, k1_ap, wp_op1, wp_useN, kN_ap, wp_opN, rsv_d, rsv_pk, ksv_v, ksv_ow, rsvs_nil, rsvs_cons, kcons_ap, wp_osN, wp_osC, wp_lsN, wp_lsC, wp_fsN, wp_fsC, wp_opd, wp_frz, wp_tupM, wp_lstM, wp_tst, ktst_bl, wp_notB, wp_andB, wp_orB, wp_andV, wp_orV, wp_notV, wp_ifE, wp_drop, wp_retM, wp_retN, fr_v, fr_un, fr_ow, pl_v, pl_un, fr_pl, frO_ap, plO_ap, slot_f, slot_t, wp_put, wp_setM, wp_parM, puts_nil, puts_cons, kt_ap, wt_N, wts_nil, wts_cons, wt_T, wp_setT, wp_tg, wp_appU, kap_ap, isL_ap, kapp_ap, wp_appE, wp_setP, kset_ap, wp_setIx, wp_setQ, wp_useF, kcall_ap, kpb_ap, kpe_ap, wp_callM, kargs_ap, argsOf_nil, argsOf_cons, argOf_d, argOf_pk, karg_v, karg_ow, pks_nil, pks_d, pks_pk, kpks_ow, kpks_v, nodupN_nil, nodupN_one, nodupN_cons, pb_nil, pb_d, pb_dU, pb_pk, kpbk_ap, kr_rt, kr_nx, kre_ap, wp_runB, back_nil, back_v, back_ow, wp_forM, wp_srcV, wp_srcA, kfor_nx, kfor_ct, kfor_bk, kfor_rt, wp_forGo_nil, wb_nil, npO_ap, wb_cons, wp_lcM, klc_ap, wp_lcB, kel_ap, kco_t, kco_f, kco_d, List.getElem?_cons_zero, List.getElem?_cons_succ, List.set_cons_zero, List.set_cons_succ, List.length_cons, List.length_nil, List.length_append, List.replicate_succ, List.replicate_zero, List.cons_append, List.nil_append, if_true, if_false, ite_true, ite_false, Bool.false_eq_true, true_and, and_true, decide_eq_true_eq, Bool.not_true, Bool.not_false, Bool.not_eq_true', decide_eq_false_iff_not, reduceIte, reduceCtorEq, Nat.zero_add, Nat.reduceAdd, Nat.reduceSub, List.contains_nil, List.contains_cons, Bool.and_true, Bool.or_false, Bool.and_self, beq_self_eq_true, Nat.reduceBEq, Nat.reduceEqDiff, Nat.succ_eq_add_one, rst, List.getD_cons_zero, List.getD_cons_succ, isF, lenF, listF, tupleF, o_int, o_inti, o_addl, o_addt, o_mulb, absF, minF, maxF, sumF, seqOf, eq_self, decide_true, decide_false, not_true_eq_false, not_false_eq_true, Bool.or_true, Bool.true_or, Bool.false_or, Bool.true_and, Bool.false_and, Bool.and_false, Option.map_some, Option.map_none, bne_f, bne_t, dec_not, fr_pl, nums_int, List.length_map, o_lt, o_le, o_gt, o_ge, o_add, o_sub, o_mul, o_div, o_mod, o_pow, o_rng1, o_rng2, at_0, at_1, at_2, at_3, at_4, at_5, at_nat, ix_0, ix_1, ix_2, ix_3, idx_l, idx_t, o_eq, o_eqb, small_nil, small_c1, small_c2, small_c3, small_c4, small_c5, small_c6, o_isi, ty_int_non, ty_int_bl, ty_int_int, ty_int_str, ty_int_tup, ty_int_lst, ty_int_dic, ty_int_set, ty_bool_non, ty_bool_bl, ty_bool_int, ty_bool_str, ty_bool_tup, ty_bool_lst, ty_bool_dic, ty_bool_set, ty_str_non, ty_str_bl, ty_str_int, ty_str_str, ty_str_tup, ty_str_lst, ty_str_dic, ty_str_set, ty_tuple_non, ty_tuple_bl, ty_tuple_int, ty_tuple_str, ty_tuple_tup, ty_tuple_lst, ty_tuple_dic, ty_tuple_set, ty_list_non, ty_list_bl, ty_list_int, ty_list_str, ty_list_tup, ty_list_lst, ty_list_dic, ty_list_set, ty_dict_non, ty_dict_bl, ty_dict_int, ty_dict_str, ty_dict_tup, ty_dict_lst, ty_dict_dic, ty_dict_set, ty_set_non, ty_set_bl, ty_set_int, ty_set_str, ty_set_tup, ty_set_lst, ty_set_dic, ty_set_set, e0]
  refine wp_choose (n := 0) (k := 0) (by decide) (by decide) ?_
  simp only [wp_ret, wp_stuck, wp_bnd, kb_ap, wp_lift, wo_some, wo_none, wo_ite, wo_map, wp_ite, ks_nx, ks_rt, ks_bk, ks_ct, wp_seq, wp_pk, kpk_v, kpk_ow, wp_rd, krd_v, krd_ow, wp_mv, kmv_v, kmv_ow, wp_cst, wp_use2, k2_ap, wp_op2, wp_use1, k1_ap, wp_op1, wp_useN, kN_ap, wp_opN, rsv_d, rsv_pk, ksv_v, ksv_ow, rsvs_nil, rsvs_cons, kcons_ap, wp_osN, wp_osC, wp_lsN, wp_lsC, wp_fsN, wp_fsC, wp_opd, wp_frz, wp_tupM, wp_lstM, wp_tst, ktst_bl, wp_notB, wp_andB, wp_orB, wp_andV, wp_orV, wp_notV, wp_ifE, wp_drop, wp_retM, wp_retN, fr_v, fr_un, fr_ow, pl_v, pl_un, fr_pl, frO_ap, plO_ap, slot_f, slot_t, wp_put, wp_setM, wp_parM, puts_nil, puts_cons, kt_ap, wt_N, wts_nil, wts_cons, wt_T, wp_setT, wp_tg, wp_appU, kap_ap, isL_ap, kapp_ap, wp_appE, wp_setP, kset_ap, wp_setIx, wp_setQ, wp_useF, kcall_ap, kpb_ap, kpe_ap, wp_callM, kargs_ap, argsOf_nil, argsOf_cons, argOf_d, argOf_pk, karg_v, karg_ow, pks_nil, pks_d, pks_pk, kpks_ow, kpks_v, nodupN_nil, nodupN_one, nodupN_cons, pb_nil, pb_d, pb_dU, pb_pk, kpbk_ap, kr_rt, kr_nx, kre_ap, wp_runB, back_nil, back_v, back_ow, wp_forM, wp_srcV, wp_srcA, kfor_nx, kfor_ct, kfor_bk, kfor_rt, wp_forGo_nil, wb_nil, npO_ap, wb_cons, wp_lcM, klc_ap, wp_lcB, kel_ap, kco_t, kco_f, kco_d, List.getElem?_cons_zero, List.getElem?_cons_succ, List.set_cons_zero, List.set_cons_succ, List.length_cons, List.length_nil, List.length_append, List.replicate_succ, List.replicate_zero, List.cons_append, List.nil_append, if_true, if_false, ite_true, ite_false, Bool.false_eq_true, true_and, and_true, decide_eq_true_eq, Bool.not_true, Bool.not_false, Bool.not_eq_true', decide_eq_false_iff_not, reduceIte, reduceCtorEq, Nat.zero_add, Nat.reduceAdd, Nat.reduceSub, List.contains_nil, List.contains_cons, Bool.and_true, Bool.or_false, Bool.and_self, beq_self_eq_true, Nat.reduceBEq, Nat.reduceEqDiff, Nat.succ_eq_add_one, rst, List.getD_cons_zero, List.getD_cons_succ, isF, lenF, listF, tupleF, o_int, o_inti, o_addl, o_addt, o_mulb, absF, minF, maxF, sumF, seqOf, eq_self, decide_true, decide_false, not_true_eq_false, not_false_eq_true, Bool.or_true, Bool.true_or, Bool.false_or, Bool.true_and, Bool.false_and, Bool.and_false, Option.map_some, Option.map_none, bne_f, bne_t, dec_not, fr_pl, nums_int, List.length_map, o_lt, o_le, o_gt, o_ge, o_add, o_sub, o_mul, o_div, o_mod, o_pow, o_rng1, o_rng2, at_0, at_1, at_2, at_3, at_4, at_5, at_nat, ix_0, ix_1, ix_2, ix_3, idx_l, idx_t, o_eq, o_eqb, small_nil, small_c1, small_c2, small_c3, small_c4, small_c5, small_c6, o_isi, ty_int_non, ty_int_bl, ty_int_int, ty_int_str, ty_int_tup, ty_int_lst, ty_int_dic, ty_int_set, ty_bool_non, ty_bool_bl, ty_bool_int, ty_bool_str, ty_bool_tup, ty_bool_lst, ty_bool_dic, ty_bool_set, ty_str_non, ty_str_bl, ty_str_int, ty_str_str, ty_str_tup, ty_str_lst, ty_str_dic, ty_str_set, ty_tuple_non, ty_tuple_bl, ty_tuple_int, ty_tuple_str, ty_tuple_tup, ty_tuple_lst, ty_tuple_dic, ty_tuple_set, ty_list_non, ty_list_bl, ty_list_int, ty_list_str, ty_list_tup, ty_list_lst, ty_list_dic, ty_list_set, ty_dict_non, ty_dict_bl, ty_dict_int, ty_dict_str, ty_dict_tup, ty_dict_lst, ty_dict_dic, ty_dict_set, ty_set_non, ty_set_bl, ty_set_int, ty_set_str, ty_set_tup, ty_set_lst, ty_set_dic, ty_set_set, bin, Int.natCast_one]
end G.K01
open PySem PySem.W PyProof.Rows
set_option maxHeartbeats 0 in
theorem PySem.Challenge.cw_grownanyturn_k01_factorials_and_mixtures_holds : PySem.Challenge.rw_grownanyturn_k01_factorials_and_mixtures.Holds := by
  w_on; o_law; k_head; (case hw => w_witness2)
  k_fill
  refine L2.walk_of (l := PySem.Challenge.rw_grownanyturn_k01_factorials_and_mixtures) (n := 63) (k := 72) (x := "script") (CX := fun w => L2.CX PySem.Challenge.rw_grownanyturn_k01_factorials_and_mixtures.prog w) (sp := fun w => G.spF _ G.EX0 1 G.K01.F_law) rfl (by decide) rfl ⟨rfl, by decide, by decide⟩ (fun w h Y => PySem.W.kIn_of Y) ?F (fun w H a ns hl _ hS => G.law_sp hS (G.K01.law_true ns hl)) (fun _ _ _ _ _ h => G.cx_no h)
  case F =>
    intro w mg fa h KX GN hmg
    refine' G.K01.all_mk KX GN hmg ?a0 ?l0 ?c0 ?k0 ?a1 ?l1 ?c1 ?k1 ?a2 ?l2 ?c2 ?k2 ?a3 ?l3 ?c3 ?k3 ?a4 ?l4 ?c4 ?k4 ?a5 ?l5 ?c5 ?k5 ?a6 ?l6 ?c6 ?k6 ?a7 ?l7 ?c7 ?k7 ?a8 ?l8 ?c8 ?k8 ?a9 ?l9 ?c9 ?k9 ?a10 ?l10 ?c10 ?k10 ?z0 ?z1 ?z2 ?z3 ?z4 ?z5 ?z6 ?z7 ?z8
    (case a0 => k_is); (case l0 => k_is); (case c0 => k_is); (case k0 => k_is); (case a1 => k_is); (case l1 => k_is); (case c1 => k_is); (case k1 => k_is); (case a2 => k_is); (case l2 => k_is); (case c2 => k_is); (case k2 => k_is); (case a3 => k_is); (case l3 => k_is); (case c3 => k_is); (case k3 => k_is); (case a4 => k_is); (case l4 => k_is); (case c4 => k_is); (case k4 => k_is); (case a5 => k_is); (case l5 => k_is); (case c5 => k_is); (case k5 => k_is); (case a6 => k_is); (case l6 => k_is); (case c6 => k_is); (case k6 => k_is); (case a7 => k_is); (case l7 => k_is); (case c7 => k_is); (case k7 => k_is); (case a8 => k_is); (case l8 => k_is); (case c8 => k_is); (case k8 => k_is); (case a9 => k_is); (case l9 => k_is); (case c9 => k_is); (case k9 => k_is); (case a10 => k_is); (case l10 => k_is); (case c10 => k_is); (case k10 => k_is); (case z0 => k_is); (case z1 => k_is); (case z2 => k_is); (case z3 => k_is); (case z4 => k_is); (case z5 => k_is); (case z6 => k_is); (case z7 => k_is); (case z8 => k_is)
