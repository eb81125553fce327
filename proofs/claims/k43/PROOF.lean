import PyProof.Rows.All
import HandS.ForMost
import HandS.ForExc
import HandS.CallSlots
import HandS.SortRule
import HandS.SortInts
import HandS.Deep
import HandS.Style
import HandS.IsInst
import HandS.Conv
import HandS.Rev
import HandS.Wide
import HandS.Flow
import HandS.TupAny
import HandS.Star
import HandS.Text
import KE.DataCmp
import KE.SortData
import HandS.WordsExc
import HandS.EndBits
import PySem.Challenge.RW_citedback_k43_whole_many_counts
set_option Elab.async false
set_option linter.all false
set_option maxRecDepth 100000
set_option maxHeartbeats 4000000
/-! D layer, part 1: data, cells, outcomes; what a heap says of them -/
namespace L2.DL
open PySem PySem.Spec PyProof.Rows L2

/-- a test that the kernel does not look into -/
noncomputable def cd (p : Prop) : Bool := @decide p (Classical.propDecidable p)
theorem cd_iff {p : Prop} : cd p = true ↔ p := by unfold cd; exact @decide_eq_true_iff p (Classical.propDecidable p)
theorem cd_eq {p : Prop} [Decidable p] : cd p = decide p := by
  by_cases h : p
  · rw [cd_iff.mpr h, decide_eq_true h]
  · rw [decide_eq_false h]
    cases e : cd p with
    | false => rfl
    | true => exact absurd (cd_iff.mp e) h
theorem cd_true {p : Prop} (h : p) : cd p = true := cd_iff.mpr h
theorem cd_false {p : Prop} (h : ¬ p) : cd p = false := by
  cases e : cd p with
  | false => rfl
  | true => exact absurd (cd_iff.mp e) h
theorem cd_T : cd True = true := cd_true trivial
theorem cd_F : cd False = false := cd_false not_false
theorem cd_if {α : Type} {p : Prop} [Decidable p] {a b : α} : (if cd p = true then a else b) = if p then a else b := by
  by_cases h : p
  · rw [if_pos h, if_pos (cd_true h)]
  · rw [if_neg h, if_neg fun z => h (cd_iff.mp z)]

/-- plain data -/
inductive D where
  | non | bl (b : Bool) | int (i : Int) | str (s : Str) | tup (l : List D) | lst (l : List D)
  | dic (l : List (D × D)) | scr (l : List Int) | fn (x : Str)
  deriving Inhabited
/-- a slot: nothing, data that never changes, an object that this frame alone may change -/
inductive Cell where
  | no | val (d : D) | own (d : D)
  deriving Inhabited
abbrev DEnv := List Cell
/-- a value at hand: data, a new object, the object of a slot -/
inductive Rv where
  | v (d : D) | f (d : D) | l (i : Nat)
  deriving Inhabited
/-- an exception -/
structure Xn where
  cls : Str
  arg : Option Int := none
inductive Out (α : Type) where
  | ok (a : α) (ρ : DEnv) | exc (x : Xn) (ρ : DEnv) | bad
abbrev Sm (α : Type) := DEnv → Out α
inductive Fl where
  | nx | brk | cnt | ret (r : Rv)

@[inline] def bnd {α β : Type} (o : Out α) (k : α → DEnv → Out β) : Out β := match o with
  | .ok a ρ => k a ρ
  | .exc x ρ => .exc x ρ
  | .bad => .bad

mutual
/-- v stands for the data in the part S of the heap that never changes -/
inductive Den (K : PySem.W.Frag) (S : Hp) : V → D → Prop
  | non : Den K S .non .non
  | bl (b : Bool) : Den K S (.bl b) (.bl b)
  | int (i : Int) : Den K S (.int i) (.int i)
  | str (x : Str) : Den K S (.str x) (.str x)
  | tup {a : Addr} {xs : List V} {ds : List D} : SqT K S a xs → DenL K S xs ds → Den K S (.ref a) (.tup ds)
  | lst {a : Addr} {xs : List V} {ds : List D} : S a = some (.lst xs) → DenL K S xs ds → Den K S (.ref a) (.lst ds)
  | scr {a : Addr} {ns : List Int} : SqL K S a (ns.map V.int) → Den K S (.ref a) (.scr ns)
inductive DenL (K : PySem.W.Frag) (S : Hp) : List V → List D → Prop
  | nil : DenL K S [] []
  | cons {v : V} {vs : List V} {d : D} {ds : List D} : Den K S v d → DenL K S vs ds → DenL K S (v :: vs) (d :: ds)
end

def Sub (S H : Hp) : Prop := ∀ b o, S b = some o → H b = some o
theorem Sub.rfl {S : Hp} : Sub S S := fun _ _ h => h
theorem Sub.seqT {K : PySem.W.Frag} {S H : Hp} {a : Addr} {xs : List V} (e : Sub S H) (h : SqT K S a xs) : SqT K H a xs := by
  rcases h with (h | ⟨o, h⟩) | h
  · exact .inl (.inl (e _ _ h))
  · exact .inl (.inr ⟨o, e _ _ h⟩)
  · exact .inr h
theorem Sub.seqL {K : PySem.W.Frag} {S H : Hp} {a : Addr} {xs : List V} (e : Sub S H) (h : SqL K S a xs) : SqL K H a xs := by
  rcases h with (h | ⟨o, h⟩) | h
  · exact .inl (.inl (e _ _ h))
  · exact .inl (.inr ⟨o, e _ _ h⟩)
  · exact .inr h
mutual
theorem Den.mono {K : PySem.W.Frag} {S H : Hp} (e : Sub S H) : ∀ {d : D} {v : V}, Den K S v d → Den K H v d
  | _, _, .non => .non
  | _, _, .bl b => .bl b
  | _, _, .int b => .int b
  | _, _, .str b => .str b
  | _, _, .tup h r => .tup (e.seqT h) (DenL.mono e r)
  | _, _, .lst h r => .lst (e _ _ h) (DenL.mono e r)
  | _, _, .scr h => .scr (e.seqL h)
theorem DenL.mono {K : PySem.W.Frag} {S H : Hp} (e : Sub S H) : ∀ {ds : List D} {vs : List V}, DenL K S vs ds → DenL K H vs ds
  | _, _, .nil => .nil
  | _, _, .cons h r => .cons (Den.mono e h) (DenL.mono e r)
end
theorem DenL.length {K : PySem.W.Frag} {S : Hp} : ∀ {ds : List D} {vs : List V}, DenL K S vs ds → vs.length = ds.length
  | _, _, .nil => _root_.rfl
  | _, _, .cons _ r => congrArg (· + 1) r.length
theorem DenL.get {K : PySem.W.Frag} {S : Hp} : ∀ {ds : List D} {vs : List V}, DenL K S vs ds → ∀ {i : Nat} {d : D}, ds[i]? = some d → ∃ v, vs[i]? = some v ∧ Den K S v d
  | _, _, .nil, i, d, h => by simp at h
  | _, _, .cons h r, 0, d, e => by
    simp at e; subst e; exact ⟨_, by simp, h⟩
  | _, _, .cons h r, i + 1, d, e => by
    obtain ⟨v, h1, h2⟩ := r.get (i := i) (d := d) (by simpa using e)
    exact ⟨v, by simpa using h1, h2⟩
theorem DenL.get' {K : PySem.W.Frag} {S : Hp} : ∀ {ds : List D} {vs : List V}, DenL K S vs ds → ∀ {i : Nat} {v : V}, vs[i]? = some v → ∃ d, ds[i]? = some d ∧ Den K S v d
  | _, _, .nil, i, d, h => by simp at h
  | _, _, .cons h r, 0, d, e => by
    simp at e; subst e; exact ⟨_, by simp, h⟩
  | _, _, .cons h r, i + 1, d, e => by
    obtain ⟨v, h1, h2⟩ := r.get' (i := i) (v := d) (by simpa using e)
    exact ⟨v, by simpa using h1, h2⟩
theorem DenL.append {K : PySem.W.Frag} {S : Hp} : ∀ {ds es : List D} {vs ws : List V}, DenL K S vs ds → DenL K S ws es → DenL K S (vs ++ ws) (ds ++ es)
  | _, _, _, _, .nil, s => s
  | _, _, _, _, .cons h r, s => .cons h (r.append s)
theorem DenL.set {K : PySem.W.Frag} {S : Hp} {v : V} {d : D} (q : Den K S v d) : ∀ {ds : List D} {vs : List V} (i : Nat), DenL K S vs ds → DenL K S (vs.set i v) (ds.set i d)
  | _, _, _, .nil => .nil
  | _, _, 0, .cons _ r => .cons q r
  | _, _, i + 1, .cons h r => .cons h (DenL.set q i r)
theorem DenL.take {K : PySem.W.Frag} {S : Hp} : ∀ {ds : List D} {vs : List V} (n : Nat), DenL K S vs ds → DenL K S (vs.take n) (ds.take n)
  | _, _, 0, _ => .nil
  | _, _, _ + 1, .nil => .nil
  | _, _, n + 1, .cons h r => .cons h (DenL.take n r)
theorem DenL.drop {K : PySem.W.Frag} {S : Hp} : ∀ {ds : List D} {vs : List V} (n : Nat), DenL K S vs ds → DenL K S (vs.drop n) (ds.drop n)
  | _, _, 0, r => r
  | _, _, _ + 1, .nil => .nil
  | _, _, n + 1, .cons _ r => DenL.drop n r
theorem DenL.reverse {K : PySem.W.Frag} {S : Hp} : ∀ {ds : List D} {vs : List V}, DenL K S vs ds → DenL K S vs.reverse ds.reverse
  | _, _, .nil => .nil
  | _, _, .cons h r => by
    rw [List.reverse_cons, List.reverse_cons]
    exact (r.reverse).append (.cons h .nil)
theorem DenL.dropLast {K : PySem.W.Frag} {S : Hp} {ds : List D} {vs : List V} (h : DenL K S vs ds) : DenL K S vs.dropLast ds.dropLast := by
  rw [List.dropLast_eq_take, List.dropLast_eq_take, h.length]; exact h.take _
theorem DenL.eraseIdx {K : PySem.W.Frag} {S : Hp} : ∀ {ds : List D} {vs : List V} (n : Nat), DenL K S vs ds → DenL K S (vs.eraseIdx n) (ds.eraseIdx n)
  | _, _, _, .nil => .nil
  | _, _, 0, .cons _ r => r
  | _, _, n + 1, .cons h r => .cons h (DenL.eraseIdx n r)
theorem DenL.rep {K : PySem.W.Frag} {S : Hp} {ds : List D} {vs : List V} (h : DenL K S vs ds) : ∀ n : Nat, DenL K S (List.replicate n vs).flatten (List.replicate n ds).flatten
  | 0 => .nil
  | n + 1 => by
    rw [List.replicate_succ, List.replicate_succ, List.flatten_cons, List.flatten_cons]
    exact h.append (h.rep n)

/-- an object that one frame may change stands for the data -/
def ObjD (K : PySem.W.Frag) (H S : Hp) (a : Addr) : D → Prop
  | .lst ds => ∃ xs, H a = some (.lst xs) ∧ DenL K S xs ds
  | _ => False
theorem ObjD.mono {K : PySem.W.Frag} {H H' S S' : Hp} {a : Addr} (e : Sub S S') (ea : ∀ o, H a = some o → H' a = some o) : ∀ {d : D}, ObjD K H S a d → ObjD K H' S' a d
  | .lst ds, ⟨xs, h, r⟩ => ⟨xs, ea _ h, r.mono e⟩
theorem ObjD.there {K : PySem.W.Frag} {H S : Hp} {a : Addr} : ∀ {d : D}, ObjD K H S a d → ∃ o, H a = some o
  | .lst ds, ⟨xs, h, r⟩ => ⟨_, h⟩

/-- the addresses that the frame may change -/
def Own (σ : St) (ρ : DEnv) (b : Addr) : Prop := ∃ (i : Nat) (d : D), ρ[i]? = some (.own d) ∧ σ[i]? = some (some (.ref b))

structure Rep (K : PySem.W.Frag) (H S : Hp) (σ : St) (ρ : DEnv) : Prop where
  sub : Sub S H
  len : ρ.length = σ.length
  val : ∀ (i : Nat) (d : D), ρ[i]? = some (.val d) → ∃ v, σ[i]? = some (some v) ∧ Den K S v d
  own : ∀ (i : Nat) (d : D), ρ[i]? = some (.own d) → ∃ a, σ[i]? = some (some (.ref a)) ∧ S a = none ∧ ObjD K H S a d
  inj : ∀ (i j : Nat) (d e : D) (a : Addr), ρ[i]? = some (.own d) → ρ[j]? = some (.own e) → σ[i]? = some (some (.ref a)) → σ[j]? = some (some (.ref a)) → i = j

/-- what code may do to the heap -/
structure Stp (σ : St) (ρ : DEnv) (H S : Hp) (σ' : St) (ρ' : DEnv) (H' S' : Hp) : Prop where
  dom : ∀ b o, H b = some o → ∃ o', H' b = some o'
  frame : ∀ b o, H b = some o → ¬ Own σ ρ b → H' b = some o
  mono : Sub S S'
  sg : ∀ b o, S' b = some o → (∃ o, S b = some o) ∨ Own σ ρ b ∨ H b = none
  og : ∀ b, Own σ' ρ' b → Own σ ρ b ∨ H b = none
theorem Stp.refl {σ : St} {ρ : DEnv} {H S : Hp} : Stp σ ρ H S σ ρ H S :=
  ⟨fun _ _ h => ⟨_, h⟩, fun _ _ h _ => h, Sub.rfl, fun _ _ h => .inl ⟨_, h⟩, fun _ h => .inl h⟩
theorem none_of {H H' : Hp} (d : ∀ b o, H b = some o → ∃ o', H' b = some o') {b : Addr} (h : H' b = none) : H b = none := by
  cases q : H b with
  | none => rfl
  | some o =>
    obtain ⟨o', e⟩ := d b o q
    rw [h] at e; cases e
theorem Stp.trans {σ σ1 σ2 : St} {ρ ρ1 ρ2 : DEnv} {H H1 H2 S S1 S2 : Hp} (a : Stp σ ρ H S σ1 ρ1 H1 S1) (b : Stp σ1 ρ1 H1 S1 σ2 ρ2 H2 S2) : Stp σ ρ H S σ2 ρ2 H2 S2 where
  dom := fun c o h => let ⟨o1, e⟩ := a.dom c o h; b.dom c o1 e
  frame := fun c o h n => by
    have e := a.frame c o h n
    refine b.frame c o e fun z => ?_
    rcases a.og c z with z | z
    · exact n z
    · rw [h] at z; cases z
  mono := fun c o h => b.mono c o (a.mono c o h)
  sg := fun c o h => by
    rcases b.sg c o h with ⟨o1, z⟩ | z | z
    · exact a.sg c o1 z
    · rcases a.og c z with z | z
      · exact .inr (.inl z)
      · exact .inr (.inr z)
    · exact .inr (.inr (none_of a.dom z))
  og := fun c h => by
    rcases b.og c h with z | z
    · exact a.og c z
    · exact .inr (none_of a.dom z)

/-- a value at hand stands for r -/
def Tm (K : PySem.W.Frag) (H S : Hp) (σ : St) (ρ : DEnv) (x : V) : Rv → Prop
  | .v d => Den K S x d
  | .f d => ∃ a, x = .ref a ∧ S a = none ∧ ¬ Own σ ρ a ∧ ObjD K H S a d
  | .l i => σ[i]? = some (some x)
/-- it is new, as P says -/
def Nw (P : Addr → Prop) (x : V) : Rv → Prop
  | .f _ => ∀ a, x = .ref a → P a
  | _ => True
/-- new since (ρ, H), or one that the frame might change -/
def New (σ : St) (ρ : DEnv) (H : Hp) (a : Addr) : Prop := Own σ ρ a ∨ H a = none
/-- the data that a value may be read as -/
def Top (K : PySem.W.Frag) (H S : Hp) (x : V) (d : D) : Prop := Den K S x d ∨ ∃ a, x = .ref a ∧ S a = none ∧ ObjD K H S a d
def deref : Rv → DEnv → Option D
  | .v d, _ => some d
  | .f d, _ => some d
  | .l i, ρ => match ρ[i]? with
    | some (.val d) => some d
    | some (.own d) => some d
    | _ => none
theorem Tm.top {K : PySem.W.Frag} {H S : Hp} {σ : St} {ρ : DEnv} {x : V} {r : Rv} {d : D} (R : Rep K H S σ ρ) (h : Tm K H S σ ρ x r) (e : deref r ρ = some d) : Top K H S x d := by
  cases r with
  | v d' => cases e; exact .inl h
  | f d' =>
    cases e
    obtain ⟨a, e1, e2, _, e3⟩ := h
    exact .inr ⟨a, e1, e2, e3⟩
  | l i =>
    simp only [deref] at e
    split at e
    · rename_i d' e2
      cases e
      obtain ⟨v, f1, f2⟩ := R.val i d e2
      rw [show σ[i]? = some (some x) from h] at f1; cases f1
      exact .inl f2
    · rename_i d' e2
      cases e
      obtain ⟨a, f1, f2, f3⟩ := R.own i d e2
      rw [show σ[i]? = some (some x) from h] at f1; cases f1
      exact .inr ⟨a, rfl, f2, f3⟩
    · cases e
/-- later code does not touch it (a slot's object keeps its slot) -/
theorem Tm.stay {K : PySem.W.Frag} {H S H' S' : Hp} {σ : St} {ρ ρ' : DEnv} {x : V} {r : Rv} (h : Tm K H S σ ρ x r) (s : Stp σ ρ H S σ ρ' H' S') : Tm K H' S' σ ρ' x r := by
  cases r with
  | v d => exact h.mono s.mono
  | f d =>
    obtain ⟨a, e1, e2, e3, e4⟩ := h
    obtain ⟨o, eo⟩ := e4.there
    have hn : S' a = none := by
      cases q : S' a with
      | none => rfl
      | some u =>
        rcases s.sg a u q with ⟨o, z⟩ | z | z
        · rw [e2] at z; cases z
        · exact absurd z e3
        · rw [eo] at z; cases z
    refine ⟨a, e1, hn, fun z => ?_, e4.mono s.mono fun o q => s.frame a o q e3⟩
    rcases s.og a z with z | z
    · exact e3 z
    · rw [eo] at z; cases z
  | l i => exact h
end L2.DL

/-! D layer, part 2: outcomes against the readings; the judgements; how operands compose -/
namespace L2.DL
open PySem PySem.Spec PyProof.Rows L2

abbrev MG := Str → Option Value
/-- the exception x, as the hand layer speaks of it -/
def IsX (mg : MG) (H : Hp) (x : Xn) (c : Value) (d : Option Addr) : Prop :=
  mg x.cls = some c ∧ match x.arg with
    | none => d = none
    | some n => ∃ a, d = some a ∧ H a = some (.xd [("at", .int n)])

section
variable (K : PySem.W.Frag) (mg : MG) (W : WX)
def GoodX (σ : St) (ρ : DEnv) (H S : Hp) (x : Xn) (ρ' : DEnv) : Prop :=
  ∀ c d H' S', Rep K H' S' σ ρ' → Stp σ ρ H S σ ρ' H' S' → IsX mg H' x c d → W c d σ H'
def GoodE (σ : St) (ρ : DEnv) (H S : Hp) (o : Out Rv) (Q : VK) : Prop := match o with
  | .ok r ρ' => ∀ x H' S', Rep K H' S' σ ρ' → Stp σ ρ H S σ ρ' H' S' → Tm K H' S' σ ρ' x r → Nw (New σ ρ H) x r → Q x H'
  | .exc x ρ' => GoodX K mg W σ ρ H S x ρ'
  | .bad => False
def GoodT (σ : St) (ρ : DEnv) (H S : Hp) (o : Out Bool) (Q : Bool → Hp → Prop) : Prop := match o with
  | .ok b ρ' => ∀ H' S', Rep K H' S' σ ρ' → Stp σ ρ H S σ ρ' H' S' → Q b H'
  | .exc x ρ' => GoodX K mg W σ ρ H S x ρ'
  | .bad => False
/-- several values at hand -/
def Tms (K : PySem.W.Frag) (H S : Hp) (σ : St) (ρ : DEnv) (P : Addr → Prop) : List V → List Rv → Prop
  | [], [] => True
  | x :: xs, r :: rs => Tm K H S σ ρ x r ∧ Nw P x r ∧ Tms K H S σ ρ P xs rs
  | _, _ => False
/-- no new object among them is x -/
def Apart (x : V) : List V → List Rv → Prop
  | y :: ys, r :: rs => ((∃ d, r = .f d) → y ≠ x) ∧ Apart x ys rs
  | _, _ => True
/-- the new objects among them are different -/
def Aparts : List V → List Rv → Prop
  | x :: xs, r :: rs => ((∃ d, r = .f d) → Apart x xs rs) ∧ Aparts xs rs
  | _, _ => True
def GoodA (σ : St) (ρ : DEnv) (H S : Hp) (o : Out (List Rv)) (Q : List V → Hp → Prop) : Prop := match o with
  | .ok rs ρ' => ∀ xs H' S', Rep K H' S' σ ρ' → Stp σ ρ H S σ ρ' H' S' → Tms K H' S' σ ρ' (New σ ρ H) xs rs → Aparts xs rs → Q xs H'
  | .exc x ρ' => GoodX K mg W σ ρ H S x ρ'
  | .bad => False
def tE (f : Sm Rv) : TE := fun σ H Q => ∃ S ρ, Rep K H S σ ρ ∧ GoodE K mg W σ ρ H S (f ρ) Q
def tT (f : Sm Bool) : TT := fun σ H Q => ∃ S ρ, Rep K H S σ ρ ∧ GoodT K mg W σ ρ H S (f ρ) Q
def tA (f : Sm (List Rv)) : TA := fun σ H Q => ∃ S ρ, Rep K H S σ ρ ∧ GoodA K mg W σ ρ H S (f ρ) Q
/-- what is wanted behind a statement; fx: slots that no statement here stores to -/
def GoodS (fx : Nat → Bool) (σ : St) (ρ : DEnv) (H S : Hp) (o : Out Fl) (D : Ends) : Prop := match o with
  | .ok .nx ρ' => ∀ σ' H' S', Rep K H' S' σ' ρ' → Stp σ ρ H S σ' ρ' H' S' → (∀ i, fx i = true → σ'[i]? = σ[i]?) → D.nx σ' H'
  | .ok .brk ρ' => ∀ σ' H' S', Rep K H' S' σ' ρ' → Stp σ ρ H S σ' ρ' H' S' → (∀ i, fx i = true → σ'[i]? = σ[i]?) → D.bk σ' H'
  | .ok .cnt ρ' => ∀ σ' H' S', Rep K H' S' σ' ρ' → Stp σ ρ H S σ' ρ' H' S' → (∀ i, fx i = true → σ'[i]? = σ[i]?) → D.ct σ' H'
  | .ok (.ret r) ρ' => ∀ σ' H' S' x, Rep K H' S' σ' ρ' → Stp σ ρ H S σ' ρ' H' S' → (∀ i, fx i = true → σ'[i]? = σ[i]?) → Tm K H' S' σ' ρ' x r → Nw (New σ ρ H) x r → D.rt x H'
  | .exc x ρ' => ∀ c d σ' H' S', Rep K H' S' σ' ρ' → Stp σ ρ H S σ' ρ' H' S' → (∀ i, fx i = true → σ'[i]? = σ[i]?) → IsX mg H' x c d → W c d σ' H'
  | .bad => False
def tS (fx : Nat → Bool) (f : Sm Fl) : TS := fun D σ H => ∃ S ρ, Rep K H S σ ρ ∧ GoodS K mg W fx σ ρ H S (f ρ) D
end

structure PDE (X : Cx) (e : Expr) (f : Sm Rv) : Prop where
  run : ∀ W, Takes X W → PE X e (tE X.K X.mg W f)
structure PDT (X : Cx) (e : Expr) (f : Sm Bool) : Prop where
  run : ∀ W, Takes X W → PT X e (tT X.K X.mg W f)
structure PDA (X : Cx) (es : List Expr) (f : Sm (List Rv)) : Prop where
  run : ∀ W, Takes X W → PA X es (tA X.K X.mg W f)
structure PDS (X : Cx) (fx : Nat → Bool) (s : Stmt) (f : Sm Fl) : Prop where
  run : ∀ W, Takes X W → PS X s (tS X.K X.mg W fx f)
structure PDB (X : Cx) (fx : Nat → Bool) (s : List Stmt) (f : Sm Fl) : Prop where
  run : ∀ W, Takes X W → PSs X s (tS X.K X.mg W fx f)

section
variable {K : PySem.W.Frag} {mg : MG} {W : WX} {σ : St} {ρ ρ1 ρ' : DEnv} {H S H1 S1 : Hp}
theorem new_adv {σ1 : St} {a : Addr} (s : Stp σ ρ H S σ1 ρ1 H1 S1) (h : New σ1 ρ1 H1 a) : New σ ρ H a := by
  rcases h with h | h
  · exact s.og a h
  · exact .inr (none_of s.dom h)
theorem nw_imp {P P' : Addr → Prop} (hp : ∀ a, P a → P' a) {x : V} {r : Rv} (h : Nw P x r) : Nw P' x r := by
  cases r with
  | f d => exact fun a e => hp a (h a e)
  | v d => trivial
  | l i => trivial
theorem nw_adv {σ1 : St} {x : V} {r : Rv} (s : Stp σ ρ H S σ1 ρ1 H1 S1) (h : Nw (New σ1 ρ1 H1) x r) : Nw (New σ ρ H) x r := nw_imp (fun a => new_adv s) h
theorem GoodX.adv {x : Xn} (s : Stp σ ρ H S σ ρ1 H1 S1) (h : GoodX K mg W σ ρ H S x ρ') : GoodX K mg W σ ρ1 H1 S1 x ρ' :=
  fun c d H' S' R t i => h c d H' S' R (s.trans t) i
theorem GoodE.adv {o : Out Rv} {Q : VK} (s : Stp σ ρ H S σ ρ1 H1 S1) (h : GoodE K mg W σ ρ H S o Q) : GoodE K mg W σ ρ1 H1 S1 o Q := by
  cases o with
  | ok r ρ' => exact fun x H' S' R t m n => h x H' S' R (s.trans t) m (nw_adv s n)
  | exc x ρ' => exact GoodX.adv s h
  | bad => exact h
theorem GoodT.adv {o : Out Bool} {Q : Bool → Hp → Prop} (s : Stp σ ρ H S σ ρ1 H1 S1) (h : GoodT K mg W σ ρ H S o Q) : GoodT K mg W σ ρ1 H1 S1 o Q := by
  cases o with
  | ok r ρ' => exact fun H' S' R t => h H' S' R (s.trans t)
  | exc x ρ' => exact GoodX.adv s h
  | bad => exact h
theorem Tms.imp {P P' : Addr → Prop} {H' S' : Hp} {ρ'' : DEnv} (h1 : ∀ x r, Tm K H S σ ρ x r → Tm K H' S' σ ρ'' x r) (h2 : ∀ a, P a → P' a) : ∀ {xs : List V} {rs : List Rv}, Tms K H S σ ρ P xs rs → Tms K H' S' σ ρ'' P' xs rs
  | [], [], _ => trivial
  | x :: xs, r :: rs, ⟨a, b, c⟩ => ⟨h1 x r a, nw_imp h2 b, Tms.imp h1 h2 c⟩
  | [], _ :: _, h => h.elim
  | _ :: _, [], h => h.elim
theorem GoodA.adv {o : Out (List Rv)} {Q : List V → Hp → Prop} (s : Stp σ ρ H S σ ρ1 H1 S1) (h : GoodA K mg W σ ρ H S o Q) : GoodA K mg W σ ρ1 H1 S1 o Q := by
  cases o with
  | ok r ρ' => exact fun xs H' S' R t m => h xs H' S' R (s.trans t) (m.imp (fun _ _ z => z) fun _ z => new_adv s z)
  | exc x ρ' => exact GoodX.adv s h
  | bad => exact h
theorem GoodS.adv {fx : Nat → Bool} {σ1 : St} {o : Out Fl} {D : Ends} (s : Stp σ ρ H S σ1 ρ1 H1 S1) (hf : ∀ i, fx i = true → σ1[i]? = σ[i]?) (h : GoodS K mg W fx σ ρ H S o D) : GoodS K mg W fx σ1 ρ1 H1 S1 o D := by
  cases o with
  | ok r ρ' =>
    cases r with
    | nx => exact fun σ' H' S' R t f => h σ' H' S' R (s.trans t) fun i e => (f i e).trans (hf i e)
    | brk => exact fun σ' H' S' R t f => h σ' H' S' R (s.trans t) fun i e => (f i e).trans (hf i e)
    | cnt => exact fun σ' H' S' R t f => h σ' H' S' R (s.trans t) fun i e => (f i e).trans (hf i e)
    | ret r => exact fun σ' H' S' x R t f m n => h σ' H' S' x R (s.trans t) (fun i e => (f i e).trans (hf i e)) m (nw_adv s n)
  | exc x ρ' => exact fun c d σ' H' S' R t f i => h c d σ' H' S' R (s.trans t) (fun i e => (f i e).trans (hf i e)) i
  | bad => exact h
/-- an expression, then what is done with its value -/
theorem tE_then {f : Sm Rv} {P : VK} (S : Hp) (ρ : DEnv) (R : Rep K H S σ ρ)
    (hok : ∀ r ρ1, f ρ = .ok r ρ1 → ∀ x H1 S1, Rep K H1 S1 σ ρ1 → Stp σ ρ H S σ ρ1 H1 S1 → Tm K H1 S1 σ ρ1 x r → Nw (New σ ρ H) x r → P x H1)
    (hex : ∀ y ρ1, f ρ = .exc y ρ1 → GoodX K mg W σ ρ H S y ρ1) (hb : f ρ ≠ .bad) : tE K mg W f σ H P := by
  refine ⟨S, ρ, R, ?_⟩
  cases e : f ρ with
  | ok r ρ1 => exact hok r ρ1 e
  | exc y ρ1 => exact hex y ρ1 e
  | bad => exact absurd e hb
/-- the same from what is wanted of the whole -/
theorem tE_bnd {α : Type} {f : Sm Rv} {k : Rv → DEnv → Out α} {P : VK} {G : Out α → Prop} (S : Hp) (ρ : DEnv) (R : Rep K H S σ ρ) (g : G (bnd (f ρ) k))
    (hx : ∀ y ρ1, G (.exc y ρ1) → GoodX K mg W σ ρ H S y ρ1) (hb : ¬ G .bad)
    (hok : ∀ r ρ1, f ρ = .ok r ρ1 → G (k r ρ1) → ∀ x H1 S1, Rep K H1 S1 σ ρ1 → Stp σ ρ H S σ ρ1 H1 S1 → Tm K H1 S1 σ ρ1 x r → Nw (New σ ρ H) x r → P x H1) : tE K mg W f σ H P := by
  refine ⟨S, ρ, R, ?_⟩
  cases e : f ρ with
  | ok r ρ1 => rw [e] at g; exact hok r ρ1 e g
  | exc y ρ1 => rw [e] at g; exact hx y ρ1 g
  | bad => rw [e] at g; exact hb g
theorem tT_bnd {α : Type} {f : Sm Bool} {k : Bool → DEnv → Out α} {P : Bool → Hp → Prop} {G : Out α → Prop} (S : Hp) (ρ : DEnv) (R : Rep K H S σ ρ) (g : G (bnd (f ρ) k))
    (hx : ∀ y ρ1, G (.exc y ρ1) → GoodX K mg W σ ρ H S y ρ1) (hb : ¬ G .bad)
    (hok : ∀ b ρ1, f ρ = .ok b ρ1 → G (k b ρ1) → ∀ H1 S1, Rep K H1 S1 σ ρ1 → Stp σ ρ H S σ ρ1 H1 S1 → P b H1) : tT K mg W f σ H P := by
  refine ⟨S, ρ, R, ?_⟩
  cases e : f ρ with
  | ok r ρ1 => rw [e] at g; exact hok r ρ1 e g
  | exc y ρ1 => rw [e] at g; exact hx y ρ1 g
  | bad => rw [e] at g; exact hb g
theorem tA_bnd {α : Type} {f : Sm (List Rv)} {k : List Rv → DEnv → Out α} {P : List V → Hp → Prop} {G : Out α → Prop} (S : Hp) (ρ : DEnv) (R : Rep K H S σ ρ) (g : G (bnd (f ρ) k))
    (hx : ∀ y ρ1, G (.exc y ρ1) → GoodX K mg W σ ρ H S y ρ1) (hb : ¬ G .bad)
    (hok : ∀ rs ρ1, f ρ = .ok rs ρ1 → G (k rs ρ1) → ∀ xs H1 S1, Rep K H1 S1 σ ρ1 → Stp σ ρ H S σ ρ1 H1 S1 → Tms K H1 S1 σ ρ1 (New σ ρ H) xs rs → Aparts xs rs → P xs H1) : tA K mg W f σ H P := by
  refine ⟨S, ρ, R, ?_⟩
  cases e : f ρ with
  | ok r ρ1 => rw [e] at g; exact hok r ρ1 e g
  | exc y ρ1 => rw [e] at g; exact hx y ρ1 g
  | bad => rw [e] at g; exact hb g
end
end L2.DL

/-! D layer, part 3: results, freezing, operators, displays -/
namespace L2.DL
open PySem PySem.Spec PyProof.Rows L2

theorem PEimp {X : Cx} {e : Expr} {t t' : TE} (h : PE X e t) (hi : ∀ σ H Q, t' σ H Q → t σ H Q) : PE X e t' :=
  ⟨fun pins s σ H Q I q => h.run pins s σ H Q I (hi σ H Q q)⟩
theorem PTimp {X : Cx} {e : Expr} {t t' : TT} (h : PT X e t) (hi : ∀ σ H Q, t' σ H Q → t σ H Q) : PT X e t' :=
  ⟨fun pins s σ H Q I q => h.run pins s σ H Q I (hi σ H Q q)⟩
theorem PAimp {X : Cx} {e : List Expr} {t t' : TA} (h : PA X e t) (hi : ∀ σ H Q, t' σ H Q → t σ H Q) : PA X e t' :=
  ⟨fun pos pins s σ H Q I q => h.run pos pins s σ H Q I (hi σ H Q q)⟩
theorem PSimp {X : Cx} {e : Stmt} {t t' : TS} (h : PS X e t) (hi : ∀ D σ H, t' D σ H → t D σ H) : PS X e t' :=
  ⟨fun pins s σ H D I q => h.run pins s σ H D I (hi D σ H q)⟩
theorem PSsimp {X : Cx} {e : List Stmt} {t t' : TS} (h : PSs X e t) (hi : ∀ D σ H, t' D σ H → t D σ H) : PSs X e t' :=
  ⟨fun pins s σ H D I q => h.run pins s σ H D I (hi D σ H q)⟩

section
variable {K : PySem.W.Frag} {mg : MG} {W : WX} {σ : St} {ρ ρ1 ρ' : DEnv} {H S H1 S1 : Hp} {Q : VK}
theorem Rep.there (R : Rep K H S σ ρ) {b : Addr} (h : Own σ ρ b) : ∃ o, H b = some o := by
  obtain ⟨i, d, h1, h2⟩ := h
  obtain ⟨a, e1, _, e2⟩ := R.own i d h1
  rw [h2] at e1; cases e1
  exact e2.there
theorem Rep.noS (R : Rep K H S σ ρ) {b : Addr} (h : Own σ ρ b) : S b = none := by
  obtain ⟨i, d, h1, h2⟩ := h
  obtain ⟨a, e1, e2, _⟩ := R.own i d h1
  rw [h2] at e1; cases e1
  exact e2
theorem Rep.freeS (R : Rep K H S σ ρ) {p : Addr} (h : H p = none) : S p = none := by
  cases q : S p with
  | none => rfl
  | some o => rw [R.sub p o q] at h; cases h
theorem Rep.notOwn (R : Rep K H S σ ρ) {p : Addr} (h : H p = none) : ¬ Own σ ρ p := fun z => by
  obtain ⟨o, e⟩ := R.there z
  rw [h] at e; cases e
theorem sub_upd {p : Addr} {o : HO} (h : H p = none) : Sub H (upd H p o) := fun b u e => by
  rw [upd_ne (ne_of_none e h)]; exact e
/-- more is known not to change -/
theorem Rep.grow (R : Rep K H S σ ρ) {S' : Hp} (h1 : Sub S S') (h2 : Sub S' H) (h3 : ∀ b, Own σ ρ b → S' b = none) : Rep K H S' σ ρ where
  sub := h2
  len := R.len
  val := fun i d h => let ⟨v, e1, e2⟩ := R.val i d h; ⟨v, e1, e2.mono h1⟩
  own := fun i d h => let ⟨a, e1, e2, e3⟩ := R.own i d h; ⟨a, e1, h3 a ⟨i, d, h, e1⟩, e3.mono h1 fun _ z => z⟩
  inj := R.inj
/-- the heap has more -/
theorem Rep.heap (R : Rep K H S σ ρ) {H' : Hp} (h : Sub H H') : Rep K H' S σ ρ where
  sub := fun b o e => h b o (R.sub b o e)
  len := R.len
  val := R.val
  own := fun i d e => let ⟨a, e1, e2, e3⟩ := R.own i d e; ⟨a, e1, e2, e3.mono Sub.rfl fun o z => h a o z⟩
  inj := R.inj
theorem Stp.alloc {p : Addr} {o : HO} (h : H p = none) : Stp σ ρ H S σ ρ (upd H p o) S where
  dom := fun b u e => ⟨u, sub_upd h b u e⟩
  frame := fun b u e _ => sub_upd h b u e
  mono := Sub.rfl
  sg := fun b u e => .inl ⟨u, e⟩
  og := fun b e => .inl e

theorem good_atom {x : V} {d : D} (R : Rep K H S σ ρ) (g : GoodE K mg W σ ρ H S (.ok (.v d) ρ) Q) (h : Den K S x d) : Q x H := g x H S R Stp.refl h trivial
theorem nw_fresh {p : Addr} {o : D} (h : H p = none) : Nw (New σ ρ H) (.ref p) (.f o) := fun a e => by cases e; exact .inr h
theorem good_newL {xs : List V} {ds : List D} {p : Addr} (R : Rep K H S σ ρ) (g : GoodE K mg W σ ρ H S (.ok (.f (.lst ds)) ρ) Q) (h : DenL K S xs ds) (hp : H p = none) : Q (.ref p) (upd H p (.lst xs)) := by
  refine g (.ref p) _ S (R.heap (sub_upd hp)) (Stp.alloc hp) ⟨p, rfl, R.freeS hp, R.notOwn hp, xs, upd_same, h⟩ (nw_fresh hp)
theorem Rep.allocS {p : Addr} {o : HO} (R : Rep K H S σ ρ) (h : H p = none) : Rep K (upd H p o) (upd S p o) σ ρ := by
  refine (R.heap (sub_upd h)).grow (sub_upd (R.freeS h)) (fun b u e => ?_) fun b z => ?_
  · by_cases q : b = p
    · subst q; rw [upd_same] at e ⊢; exact e
    · rw [upd_ne q] at e ⊢; exact R.sub b u e
  · have q : b ≠ p := fun q => by subst q; exact R.notOwn h z
    rw [upd_ne q]; exact R.noS z
theorem Stp.allocS {p : Addr} {o : HO} (R : Rep K H S σ ρ) (h : H p = none) : Stp σ ρ H S σ ρ (upd H p o) (upd S p o) where
  dom := fun b u e => ⟨u, sub_upd h b u e⟩
  frame := fun b u e _ => sub_upd h b u e
  mono := sub_upd (R.freeS h)
  sg := fun b u e => by
    by_cases q : b = p
    · subst q; exact .inr (.inr h)
    · rw [upd_ne q] at e; exact .inl ⟨u, e⟩
  og := fun b e => .inl e
theorem good_newT {xs : List V} {ds : List D} {p : Addr} (R : Rep K H S σ ρ) (g : GoodE K mg W σ ρ H S (.ok (.v (.tup ds)) ρ) Q) (h : DenL K S xs ds) (hp : H p = none) : Q (.ref p) (upd H p (.tup xs)) :=
  g (.ref p) _ _ (R.allocS hp) (Stp.allocS R hp) (.tup (.inl (.inl upd_same)) (h.mono (sub_upd (R.freeS hp)))) trivial

/-! ### freezing -/
def frz : Rv → DEnv → Option (D × DEnv)
  | .v d, ρ => some (d, ρ)
  | .f d, ρ => some (d, ρ)
  | .l i, ρ => match ρ[i]? with
    | some (.val d) => some (d, ρ)
    | some (.own d) => some (d, ρ.set i (.val d))
    | _ => none
def frzs : List Rv → DEnv → Option (List D × DEnv)
  | [], ρ => some ([], ρ)
  | r :: rs, ρ => match frz r ρ with
    | some (d, ρ1) => match frzs rs ρ1 with
      | some (ds, ρ2) => some (d :: ds, ρ2)
      | none => none
    | none => none
/-- the object at a never changes from now on -/
def addS (S H : Hp) (a : Addr) : Hp := fun b => if b = a then H a else S b
theorem addS_same {a : Addr} : addS S H a a = H a := by unfold addS; rw [if_pos rfl]
theorem addS_ne {a b : Addr} (h : b ≠ a) : addS S H a b = S b := by unfold addS; rw [if_neg h]
theorem addS_sub {a : Addr} (h : Sub S H) : Sub S (addS S H a) := fun b o e => by
  by_cases q : b = a
  · subst q; rw [addS_same]; exact h b o e
  · rw [addS_ne q]; exact e
theorem addS_le {a : Addr} (h : Sub S H) : Sub (addS S H a) H := fun b o e => by
  by_cases q : b = a
  · subst q; rw [addS_same] at e; exact e
  · rw [addS_ne q] at e; exact h b o e
theorem ObjD.den {a : Addr} (h : Sub S H) : ∀ {d : D}, ObjD K H S a d → Den K (addS S H a) (.ref a) d
  | .lst ds, ⟨xs, e, r⟩ => .lst (by rw [addS_same]; exact e) (r.mono (addS_sub h))
theorem own_set {i : Nat} {d : D} {b : Addr} (h : Own σ (ρ.set i (.val d)) b) : Own σ ρ b := by
  obtain ⟨j, e, h1, h2⟩ := h
  by_cases q : i = j
  · subst q
    by_cases z : i < ρ.length
    · rw [List.getElem?_set_self z] at h1; cases h1
    · rw [List.getElem?_eq_none (by simpa using z)] at h1; cases h1
  · rw [List.getElem?_set_ne q] at h1
    exact ⟨j, e, h1, h2⟩
theorem Rep.frzSlot {i : Nat} {d : D} {a : Addr} (R : Rep K H S σ ρ) (h : ρ[i]? = some (Cell.own d)) (ha : σ[i]? = some (some (V.ref a))) :
    Rep K H (addS S H a) σ (ρ.set i (.val d)) ∧ Den K (addS S H a) (.ref a) d := by
  have own : Own σ ρ a := ⟨i, d, h, ha⟩
  obtain ⟨a', e1, _, e3⟩ := R.own i d h
  rw [ha] at e1; cases e1
  have hd : Den K (addS S H a) (.ref a) d := e3.den R.sub
  have hi : i < ρ.length := (List.getElem?_eq_some_iff.mp h).1
  refine ⟨⟨addS_le R.sub, by rw [List.length_set]; exact R.len, fun j e q => ?_, fun j e q => ?_, fun j k e f c q1 q2 => ?_⟩, hd⟩
  · by_cases z : i = j
    · subst z
      rw [List.getElem?_set_self hi] at q; cases q
      exact ⟨_, ha, hd⟩
    · rw [List.getElem?_set_ne z] at q
      obtain ⟨v, e1, e2⟩ := R.val j e q
      exact ⟨v, e1, e2.mono (addS_sub R.sub)⟩
  · by_cases z : i = j
    · subst z
      rw [List.getElem?_set_self hi] at q; cases q
    · rw [List.getElem?_set_ne z] at q
      obtain ⟨b, e1, e2, e3⟩ := R.own j e q
      have hb : b ≠ a := fun y => by
        subst y
        exact z (R.inj i j d e b h q ha e1)
      exact ⟨b, e1, by rw [addS_ne hb]; exact e2, e3.mono (addS_sub R.sub) fun _ y => y⟩
  · by_cases z : i = j
    · subst z
      rw [List.getElem?_set_self hi] at q1; cases q1
    · by_cases z2 : i = k
      · subst z2
        rw [List.getElem?_set_self hi] at q2; cases q2
      · rw [List.getElem?_set_ne z] at q1
        rw [List.getElem?_set_ne z2] at q2
        exact R.inj j k e f c q1 q2
/-- an object at hand never changes from now on -/
theorem Rep.frzObj {d : D} {a : Addr} (R : Rep K H S σ ρ) (ho : ¬ Own σ ρ a) (h : ObjD K H S a d) : Rep K H (addS S H a) σ ρ ∧ Den K (addS S H a) (.ref a) d := by
  refine ⟨R.grow (addS_sub R.sub) (addS_le R.sub) fun b z => ?_, h.den R.sub⟩
  have q : b ≠ a := fun q => by subst q; exact ho z
  rw [addS_ne q]; exact R.noS z
/-- what freezing asks of a value at hand -/
def Tf (K : PySem.W.Frag) (H S : Hp) (σ : St) (ρ : DEnv) (P : Addr → Prop) (x : V) : Rv → Prop
  | .v d => Den K S x d
  | .f d => ∃ a, x = .ref a ∧ ¬ Own σ ρ a ∧ ObjD K H S a d ∧ P a
  | .l i => σ[i]? = some (some x)
theorem Tm.tf {P : Addr → Prop} {x : V} {r : Rv} (t : Tm K H S σ ρ x r) (n : Nw P x r) : Tf K H S σ ρ P x r := by
  cases r with
  | v d => exact t
  | f d =>
    obtain ⟨a, e1, _, e3, e4⟩ := t
    exact ⟨a, e1, e3, e4, n a e1⟩
  | l i => exact t
theorem Tf.stay {P : Addr → Prop} {S' : Hp} {x : V} {r : Rv} (t : Tf K H S σ ρ P x r) (h : Sub S S') (ho : ∀ b, Own σ ρ' b → Own σ ρ b) : Tf K H S' σ ρ' P x r := by
  cases r with
  | v d => exact t.mono h
  | f d =>
    obtain ⟨a, e1, e3, e4, e5⟩ := t
    exact ⟨a, e1, fun z => e3 (ho a z), e4.mono h fun _ z => z, e5⟩
  | l i => exact t
/-- freezing, from a start (ρ0, H0, S0): what is new since then may be frozen -/
theorem frz_ok {H0 S0 : Hp} {σ0 : St} {ρ0 : DEnv} {x : V} {r : Rv} {d : D} (R : Rep K H S σ ρ) (s : Stp σ0 ρ0 H0 S0 σ ρ H S) (t : Tf K H S σ ρ (New σ0 ρ0 H0) x r) (e : frz r ρ = some (d, ρ')) :
    ∃ S', Rep K H S' σ ρ' ∧ Stp σ0 ρ0 H0 S0 σ ρ' H S' ∧ Den K S' x d ∧ Sub S S' ∧ ∀ b, Own σ ρ' b → Own σ ρ b := by
  cases r with
  | v d' => cases e; exact ⟨S, R, s, t, Sub.rfl, fun _ z => z⟩
  | f d' =>
    cases e
    obtain ⟨a, e1, e3, e4, e5⟩ := t
    subst e1
    obtain ⟨R', hd⟩ := R.frzObj e3 e4
    refine ⟨_, R', ⟨s.dom, s.frame, fun b o q => addS_sub R.sub b o (s.mono b o q), fun b o q => ?_, s.og⟩, hd, addS_sub R.sub, fun _ z => z⟩
    by_cases z : b = a
    · subst z; exact .inr e5
    · rw [addS_ne z] at q; exact s.sg b o q
  | l i =>
    simp only [frz] at e
    split at e
    · rename_i d' q
      cases e
      obtain ⟨v, e1, e2⟩ := R.val i d q
      rw [show σ[i]? = some (some x) from t] at e1; cases e1
      exact ⟨S, R, s, e2, Sub.rfl, fun _ z => z⟩
    · rename_i d' q
      cases e
      obtain ⟨a, e1, e2, e3⟩ := R.own i d q
      rw [show σ[i]? = some (some x) from t] at e1; cases e1
      obtain ⟨R', hd⟩ := R.frzSlot q t
      refine ⟨_, R', ⟨s.dom, s.frame, fun b o q => addS_sub R.sub b o (s.mono b o q), fun b o z => ?_, fun b z => s.og b (own_set z)⟩, hd, addS_sub R.sub, fun _ z => own_set z⟩
      by_cases y : b = a
      · subst y
        rcases s.og b ⟨i, d, q, t⟩ with w | w
        · exact .inr (.inl w)
        · exact .inr (.inr w)
      · rw [addS_ne y] at z; exact s.sg b o z
    · cases e
def Tfs (K : PySem.W.Frag) (H S : Hp) (σ : St) (ρ : DEnv) (P : Addr → Prop) : List V → List Rv → Prop
  | [], [] => True
  | x :: xs, r :: rs => Tf K H S σ ρ P x r ∧ Tfs K H S σ ρ P xs rs
  | _, _ => False
theorem Tms.tfs {P : Addr → Prop} : ∀ {xs : List V} {rs : List Rv}, Tms K H S σ ρ P xs rs → Tfs K H S σ ρ P xs rs
  | [], [], _ => trivial
  | x :: xs, r :: rs, ⟨a, b, c⟩ => ⟨a.tf b, c.tfs⟩
  | [], _ :: _, h => h.elim
  | _ :: _, [], h => h.elim
theorem Tfs.stay {P : Addr → Prop} {S' : Hp} (h : Sub S S') (ho : ∀ b, Own σ ρ' b → Own σ ρ b) : ∀ {xs : List V} {rs : List Rv}, Tfs K H S σ ρ P xs rs → Tfs K H S' σ ρ' P xs rs
  | [], [], _ => trivial
  | x :: xs, r :: rs, ⟨a, c⟩ => ⟨a.stay h ho, c.stay h ho⟩
  | [], _ :: _, h => h.elim
  | _ :: _, [], h => h.elim
theorem frzs_ok {H0 S0 : Hp} {σ0 : St} {ρ0 : DEnv} : ∀ {xs : List V} {rs : List Rv} {ds : List D} {S : Hp} {ρ ρ' : DEnv}, Rep K H S σ ρ → Stp σ0 ρ0 H0 S0 σ ρ H S → Tfs K H S σ ρ (New σ0 ρ0 H0) xs rs → frzs rs ρ = some (ds, ρ') →
    ∃ S', Rep K H S' σ ρ' ∧ Stp σ0 ρ0 H0 S0 σ ρ' H S' ∧ DenL K S' xs ds ∧ Sub S S' ∧ ∀ b, Own σ ρ' b → Own σ ρ b
  | [], [], ds, S, ρ, ρ', R, s, _, e => by cases e; exact ⟨S, R, s, .nil, Sub.rfl, fun _ z => z⟩
  | x :: xs, r :: rs, ds, S, ρ, ρ', R, s, ⟨a, c⟩, e => by
    simp only [frzs] at e
    split at e
    · rename_i d ρ1 q1
      split at e
      · rename_i es ρ2 q2
        cases e
        obtain ⟨S1, R1, s1, d1, m1, o1⟩ := frz_ok R s a q1
        obtain ⟨S2, R2, s2, d2, m2, o2⟩ := frzs_ok R1 s1 (c.stay m1 o1) q2
        exact ⟨S2, R2, s2, .cons (d1.mono m2) d2, fun b o z => m2 b o (m1 b o z), fun b z => o1 b (o2 b z)⟩
      · cases e
    · cases e
  | [], _ :: _, _, _, _, _, _, _, h, _ => h.elim
  | _ :: _, [], _, _, _, _, _, _, h, _ => h.elim
end
end L2.DL

/-! D layer, part 4: expressions -/
namespace L2.DL
open PySem PySem.Spec PyProof.Rows L2

/-! ### meanings -/
def sVar (i : Nat) : Sm Rv := fun ρ => match ρ[i]? with
  | some (.val d) => .ok (.v d) ρ
  | some (.own _) => .ok (.l i) ρ
  | _ => .bad
def sLit (d : D) : Sm Rv := fun ρ => .ok (.v d) ρ
abbrev Op2 := D → D → Option Rv
def ap2 (op : Op2) (r q : Rv) (ρ : DEnv) : Out Rv := match deref r ρ, deref q ρ with
  | some a, some b => match op a b with
    | some z => .ok z ρ
    | none => .bad
  | _, _ => .bad
def sBin (op : Op2) (f g : Sm Rv) : Sm Rv := fun ρ => bnd (f ρ) fun r ρ1 => bnd (g ρ1) fun q ρ2 => ap2 op r q ρ2
def ap1 (op : D → Option Rv) (r : Rv) (ρ : DEnv) : Out Rv := match deref r ρ with
  | some a => match op a with
    | some z => .ok z ρ
    | none => .bad
  | _ => .bad
def sUn (op : D → Option Rv) (f : Sm Rv) : Sm Rv := fun ρ => bnd (f ρ) fun r ρ1 => ap1 op r ρ1
abbrev Cmp2 := D → D → Option Bool
def apC (c : Cmp2) (r q : Rv) (ρ : DEnv) : Out Bool := match deref r ρ, deref q ρ with
  | some a, some b => match c a b with
    | some z => .ok z ρ
    | none => .bad
  | _, _ => .bad
def tCmp' (c : Cmp2) (f g : Sm Rv) : Sm Bool := fun ρ => bnd (f ρ) fun r ρ1 => bnd (g ρ1) fun q ρ2 => apC c r q ρ2
def tChn (c c' : Cmp2) (f g h : Sm Rv) : Sm Bool := fun ρ => bnd (f ρ) fun r ρ1 => bnd (g ρ1) fun q ρ2 => bnd (apC c r q ρ2) fun b ρ3 =>
  if b = true then bnd (h ρ3) fun z ρ4 => apC c' q z ρ4 else .ok false ρ3
/-- a test as a value -/
def sOfT (f : Sm Bool) : Sm Rv := fun ρ => bnd (f ρ) fun b ρ1 => .ok (.v (.bl b)) ρ1
/-- a value as a test: a bool -/
def tOfS (f : Sm Rv) : Sm Bool := fun ρ => bnd (f ρ) fun r ρ1 => match deref r ρ1 with
  | some (.bl b) => .ok b ρ1
  | _ => .bad
def tAnd' (f g : Sm Bool) : Sm Bool := fun ρ => bnd (f ρ) fun b ρ1 => if b = true then g ρ1 else .ok false ρ1
def tOr' (f g : Sm Bool) : Sm Bool := fun ρ => bnd (f ρ) fun b ρ1 => if b = true then .ok true ρ1 else g ρ1
def tNot' (f : Sm Bool) : Sm Bool := fun ρ => bnd (f ρ) fun b ρ1 => .ok (!b) ρ1
def sIf (t : Sm Bool) (f g : Sm Rv) : Sm Rv := fun ρ => bnd (t ρ) fun b ρ1 => if b = true then f ρ1 else g ρ1
def aNil : Sm (List Rv) := fun ρ => .ok [] ρ
def aCons (f : Sm Rv) (g : Sm (List Rv)) : Sm (List Rv) := fun ρ => bnd (f ρ) fun r ρ1 => bnd (g ρ1) fun rs ρ2 => .ok (r :: rs) ρ2
noncomputable def small (n : Nat) : Bool := cd (n ≤ 16777216)
noncomputable def sTup (g : Sm (List Rv)) : Sm Rv := fun ρ => bnd (g ρ) fun rs ρ1 => match frzs rs ρ1 with
  | some (ds, ρ2) => if small ds.length = true then .ok (.v (.tup ds)) ρ2 else .bad
  | none => .bad
noncomputable def sLst (g : Sm (List Rv)) : Sm Rv := fun ρ => bnd (g ρ) fun rs ρ1 => match frzs rs ρ1 with
  | some (ds, ρ2) => if small ds.length = true then .ok (.f (.lst ds)) ρ2 else .bad
  | none => .bad
def derefs : List Rv → DEnv → Option (List D)
  | [], _ => some []
  | r :: rs, ρ => match deref r ρ, derefs rs ρ with
    | some d, some ds => some (d :: ds)
    | _, _ => none
/-- a built-in that reads its arguments -/
abbrev OpN := List D → Option Rv
def sBlt (op : OpN) (g : Sm (List Rv)) : Sm Rv := fun ρ => bnd (g ρ) fun rs ρ1 => match derefs rs ρ1 with
  | some ds => match op ds with
    | some z => .ok z ρ1
    | none => .bad
  | none => .bad

/-! ### soundness of operations -/
def OpS (X : Cx) (r : R2) (op : Op2) : Prop := ∀ {W : WX} {σ : St} {ρ : DEnv} {H S : Hp} {x y : V} {a b : D} {q : Rv} {Q : VK},
  Rep X.K H S σ ρ → Top X.K H S x a → Top X.K H S y b → op a b = some q → GoodE X.K X.mg W σ ρ H S (.ok q ρ) Q → r x y H Q
def Sd2 (X : Cx) (F : Value → Value → Sem Value) (op : Op2) : Prop := ∃ r, OpR X F r ∧ OpS X r op
def OpS1 (X : Cx) (r : V → Hp → VK → Prop) (op : D → Option Rv) : Prop := ∀ {W : WX} {σ : St} {ρ : DEnv} {H S : Hp} {x : V} {a : D} {q : Rv} {Q : VK},
  Rep X.K H S σ ρ → Top X.K H S x a → op a = some q → GoodE X.K X.mg W σ ρ H S (.ok q ρ) Q → r x H Q
def Sd1 (X : Cx) (F : Value → Sem Value) (op : D → Option Rv) : Prop := ∃ r, UnR X F r ∧ OpS1 X r op
inductive Tops (K : PySem.W.Frag) (H S : Hp) : List V → List D → Prop
  | nil : Tops K H S [] []
  | cons {x : V} {xs : List V} {d : D} {ds : List D} : Top K H S x d → Tops K H S xs ds → Tops K H S (x :: xs) (d :: ds)
def OpSN (X : Cx) (r : List V → Hp → VK → Prop) (op : OpN) : Prop := ∀ {W : WX} {σ : St} {ρ : DEnv} {H S : Hp} {xs : List V} {ds : List D} {q : Rv} {Q : VK},
  Rep X.K H S σ ρ → Tops X.K H S xs ds → op ds = some q → GoodE X.K X.mg W σ ρ H S (.ok q ρ) Q → r xs H Q
def SdN (X : Cx) (F : Value) (op : OpN) : Prop := ∃ r, CallR X F r ∧ OpSN X r op

theorem Sd2.or {X : Cx} {F : Value → Value → Sem Value} {op op' : Op2} (h : Sd2 X F op) (h' : Sd2 X F op') : Sd2 X F (fun a b => match op a b with | some z => some z | none => op' a b) := by
  obtain ⟨r, h1, h2⟩ := h
  obtain ⟨r', h1', h2'⟩ := h'
  refine ⟨_, h1.or h1', fun {W σ ρ H S x y a b q Q} R tx ty e g => ?_⟩
  cases eo : op a b with
  | some z =>
    simp only [eo] at e
    cases e
    exact .inl (h2 R tx ty eo g)
  | none =>
    simp only [eo] at e
    exact .inr (h2' R tx ty e g)
theorem SdN.or {X : Cx} {F : Value} {op op' : OpN} (h : SdN X F op) (h' : SdN X F op') : SdN X F (fun a => match op a with | some z => some z | none => op' a) := by
  obtain ⟨r, h1, h2⟩ := h
  obtain ⟨r', h1', h2'⟩ := h'
  refine ⟨_, h1.or h1', fun {W σ ρ H S xs ds q Q} R tx e g => ?_⟩
  cases eo : op ds with
  | some z =>
    simp only [eo] at e
    cases e
    exact .inl (h2 R tx eo g)
  | none =>
    simp only [eo] at e
    exact .inr (h2' R tx e g)

section
variable {K : PySem.W.Frag} {mg : MG} {W : WX} {σ : St} {ρ ρ1 ρ' : DEnv} {H S H1 S1 : Hp} {Q : VK}
theorem Tm.topD {x : V} {r : Rv} {d : D} (R : Rep K H S σ ρ) (h : Tm K H S σ ρ x r) (e : deref r ρ = some d) : Top K H S x d := h.top R e
theorem Tms.tops {P : Addr → Prop} (R : Rep K H S σ ρ) : ∀ {xs : List V} {rs : List Rv} {ds : List D}, Tms K H S σ ρ P xs rs → derefs rs ρ = some ds → Tops K H S xs ds
  | [], [], ds, _, e => by cases e; exact .nil
  | x :: xs, r :: rs, ds, ⟨a, b, c⟩, e => by
    simp only [derefs] at e
    split at e
    · rename_i d ds' e1 e2
      cases e
      exact .cons (a.top R e1) (c.tops R e2)
    · cases e
  | [], _ :: _, _, h, _ => h.elim
  | _ :: _, [], _, h, _ => h.elim

/-- two operands -/
theorem bin_t {X : Cx} {r : R2} {op : Op2} {f g : Sm Rv} (ho : OpS X r op) (h : tE X.K X.mg W (sBin op f g) σ H Q) : tOp r (tE X.K X.mg W f) (tE X.K X.mg W g) σ H Q := by
  obtain ⟨S, ρ, R, g0⟩ := h
  refine tE_bnd (G := fun o => GoodE X.K X.mg W σ ρ H S o Q) S ρ R g0 (fun _ _ z => z) (fun z => z) fun r1 ρ1 _ g1 x H1 S1 R1 s1 t1 _ => ?_
  have g1 := GoodE.adv s1 g1
  refine tE_bnd (G := fun o => GoodE X.K X.mg W σ ρ1 H1 S1 o Q) S1 ρ1 R1 g1 (fun _ _ z => z) (fun z => z) fun r2 ρ2 _ g2 y H2 S2 R2 s2 t2 _ => ?_
  have g2 := GoodE.adv s2 g2
  have t1 := t1.stay s2
  unfold ap2 at g2
  split at g2
  · rename_i a b ea eb
    split at g2
    · rename_i z ez
      exact ho R2 (t1.top R2 ea) (t2.top R2 eb) ez g2
    · exact g2.elim
  · exact g2.elim
theorem un_t {X : Cx} {r : V → Hp → VK → Prop} {op : D → Option Rv} {f : Sm Rv} (ho : OpS1 X r op) (h : tE X.K X.mg W (sUn op f) σ H Q) : tUn r (tE X.K X.mg W f) σ H Q := by
  obtain ⟨S, ρ, R, g0⟩ := h
  refine tE_bnd (G := fun o => GoodE X.K X.mg W σ ρ H S o Q) S ρ R g0 (fun _ _ z => z) (fun z => z) fun r1 ρ1 _ g1 x H1 S1 R1 s1 t1 _ => ?_
  have g1 := GoodE.adv s1 g1
  unfold ap1 at g1
  split at g1
  · rename_i a ea
    split at g1
    · rename_i z ez
      exact ho R1 (t1.top R1 ea) ez g1
    · exact g1.elim
  · exact g1.elim
theorem blt_t {X : Cx} {r : List V → Hp → VK → Prop} {op : OpN} {g : Sm (List Rv)} (ho : OpSN X r op) (h : tE X.K X.mg W (sBlt op g) σ H Q) : tCB r (tA X.K X.mg W g) σ H Q := by
  obtain ⟨S, ρ, R, g0⟩ := h
  refine tA_bnd (G := fun o => GoodE X.K X.mg W σ ρ H S o Q) S ρ R g0 (fun _ _ z => z) (fun z => z) fun rs ρ1 _ g1 xs H1 S1 R1 s1 t1 _ => ?_
  have g1 := GoodE.adv s1 g1
  split at g1
  · rename_i ds ed
    split at g1
    · rename_i z ez
      exact ho R1 (t1.tops R1 ed) ez g1
    · exact g1.elim
  · exact g1.elim
end

section
variable {X : Cx} {a b c e : Expr} {es : List Expr} {f g h : Sm Rv} {t u : Sm Bool} {as : Sm (List Rv)} {pos p : Pos}
theorem de_var {i : Nat} {x : Str} (hN : X.N[i]? = some x) (hv : Vis X.env.scope x) (hd : (x == ("__debug__" : Str)) = false) (hcd : (x == ("__classdict__" : Str)) = false) : PDE X (.Name x pos) (sVar i) := by
  refine ⟨fun W _ => PEimp (pe_var hN hv hd hcd) fun σ H Q h => ?_⟩
  obtain ⟨S, ρ, R, g⟩ := h
  unfold sVar at g
  split at g
  · rename_i d e1
    obtain ⟨v, e2, e3⟩ := R.val i d e1
    exact ⟨v, e2, g v H S R Stp.refl e3 trivial⟩
  · rename_i d e1
    obtain ⟨a, e2, _, _⟩ := R.own i d e1
    exact ⟨.ref a, e2, g _ H S R Stp.refl e2 trivial⟩
  · exact g.elim
theorem de_lit {v : V} {d : D} (hp : PE X e (tC v)) (hd : ∀ S, Den X.K S v d) : PDE X e (sLit d) :=
  ⟨fun W _ => PEimp hp fun σ H Q ⟨S, ρ, R, g⟩ => good_atom R g (hd S)⟩
theorem de_int {i j} : PDE X (.Constant (.int i) j pos) (sLit (.int i)) := de_lit pe_int fun _ => .int i
theorem de_bl {i j} : PDE X (.Constant (.bool i) j pos) (sLit (.bl i)) := de_lit pe_bl fun _ => .bl i
theorem de_non {j} : PDE X (.Constant .none j pos) (sLit .non) := de_lit pe_non fun _ => .non
theorem de_str {x j} : PDE X (.Constant (.str x) j pos) (sLit (.str x)) := de_lit pe_str fun _ => .str x
theorem de_bin {o : Operator} {op : Op2} (ho : Sd2 X (binaryOp o) op) (ha : PDE X a f) (hb : PDE X b g) : PDE X (.BinOp a o b pos) (sBin op f g) := by
  obtain ⟨r, h1, h2⟩ := ho
  exact ⟨fun W tk => PEimp (pe_op h1 (ha.run W tk) (hb.run W tk)) fun σ H Q => bin_t h2⟩
theorem de_un {o : UnaryOp} {op : D → Option Rv} (ho : Sd1 X (unaryOp o) op) (ha : PDE X a f) : PDE X (.UnaryOp o a pos) (sUn op f) := by
  obtain ⟨r, h1, h2⟩ := ho
  exact ⟨fun W tk => PEimp (pe_un h1 (ha.run W tk)) fun σ H Q => un_t h2⟩
theorem de_cmp {o : CmpOp} {op : Op2} (ho : Sd2 X (compareOp o) op) (ha : PDE X a f) (hb : PDE X b g) (hm : behindInMarks o b = false) : PDE X (.Compare a [o] [b] pos) (sBin op f g) := by
  obtain ⟨r, h1, h2⟩ := ho
  exact ⟨fun W tk => PEimp (pe_cmpR h1 (ha.run W tk) (hb.run W tk) hm) fun σ H Q => bin_t h2⟩
theorem da_nil : PDA X [] aNil := ⟨fun W tk => PAimp pa_nil fun σ H Q ⟨S, ρ, R, g⟩ => g [] H S R Stp.refl trivial trivial⟩
def noStar : Expr → Bool
  | .Starred .. => false
  | _ => true
theorem star_cons {env : Env} (h : noStar e = true) : starEach (e :: es) env = (false, eval e env) :: starEach es env := by
  cases e <;> first | rfl | cases h
theorem apart_of {K : PySem.W.Frag} {H1 S1 H2 S2 : Hp} {σ : St} {ρ1 ρ2 : DEnv} {x : V} {d : D} (t : Tm K H1 S1 σ ρ1 x (.f d)) : ∀ {xs : List V} {rs : List Rv}, Tms K H2 S2 σ ρ2 (New σ ρ1 H1) xs rs → Apart x xs rs
  | [], [], _ => trivial
  | y :: ys, r :: rs, ⟨_, b, c⟩ => by
    refine ⟨fun ⟨e, he⟩ z => ?_, apart_of t c⟩
    subst he
    obtain ⟨a, e1, e2, e3, e4⟩ := t
    obtain ⟨o, eo⟩ := e4.there
    rcases b a (z.trans e1) with q | q
    · exact e3 q
    · rw [eo] at q; cases q
  | [], _ :: _, h => h.elim
  | _ :: _, [], h => h.elim
theorem da_cons (ha : PDE X e f) (hb : PDA X es as) (h : noStar e = true) : PDA X (e :: es) (aCons f as) := by
  refine ⟨fun W tk => PAimp (pa_cons (ha.run W tk) (hb.run W tk) (star_cons h)) fun σ H Q h => ?_⟩
  obtain ⟨S, ρ, R, g0⟩ := h
  refine tE_bnd (G := fun o => GoodA X.K X.mg W σ ρ H S o Q) S ρ R g0 (fun _ _ z => z) (fun z => z) fun r1 ρ1 _ g1 x H1 S1 R1 s1 t1 n1 => ?_
  refine tA_bnd (G := fun o => GoodA X.K X.mg W σ ρ H S o Q) S1 ρ1 R1 g1 (fun _ _ z => GoodX.adv s1 z) (fun z => z) fun rs ρ2 _ g2 xs H2 S2 R2 s2 t2 a2 => ?_
  refine g2 (x :: xs) H2 S2 R2 (s1.trans s2) ⟨t1.stay s2, n1, t2.imp (fun _ _ z => z) fun _ z => new_adv s1 z⟩ ⟨fun ⟨d, e⟩ => ?_, a2⟩
  subst e
  exact apart_of t1 t2
theorem small_le {n : Nat} (h : small n = true) : n ≤ sizeLine := by
  rw [sizeLine_eq]; exact cd_iff.mp h
theorem frzs_good {H0 S0 : Hp} {ρ0 ρ1 ρ2 : DEnv} {σ : St} {K : PySem.W.Frag} {mg : MG} {W : WX} {H S : Hp} {xs : List V} {rs : List Rv} {ds : List D} {z : Rv} {Q : VK} (R : Rep K H S σ ρ1) (s : Stp σ ρ0 H0 S0 σ ρ1 H S) (t : Tms K H S σ ρ1 (New σ ρ0 H0) xs rs)
    (e : frzs rs ρ1 = some (ds, ρ2)) (g : GoodE K mg W σ ρ0 H0 S0 (.ok z ρ2) Q) : ∃ S', Rep K H S' σ ρ2 ∧ DenL K S' xs ds ∧ GoodE K mg W σ ρ2 H S' (.ok z ρ2) Q := by
  obtain ⟨S', R', s', d, _, _⟩ := frzs_ok R s t.tfs e
  exact ⟨S', R', d, GoodE.adv s' g⟩
theorem de_tup {k} (ha : PDA X es as) : PDE X (.Tuple es k pos) (sTup as) := by
  refine ⟨fun W tk => PEimp (pe_tup (ha.run W tk)) fun σ H Q h => ?_⟩
  obtain ⟨S, ρ, R, g0⟩ := h
  refine tA_bnd (G := fun o => GoodE X.K X.mg W σ ρ H S o Q) S ρ R g0 (fun _ _ z => z) (fun z => z) fun rs ρ1 _ g1 xs H1 S1 R1 s1 t1 _ => ?_
  split at g1
  · rename_i ds ρ2 e
    split at g1
    · rename_i hz
      obtain ⟨S', R', d, g2⟩ := frzs_good R1 s1 t1 e g1
      exact ⟨by rw [d.length]; exact small_le hz, fun p hp => good_newT R' g2 d hp⟩
    · exact g1.elim
  · exact g1.elim
theorem de_lst (ha : PDA X es as) : PDE X (.List es pos) (sLst as) := by
  refine ⟨fun W tk => PEimp (pe_lst (ha.run W tk)) fun σ H Q h => ?_⟩
  obtain ⟨S, ρ, R, g0⟩ := h
  refine tA_bnd (G := fun o => GoodE X.K X.mg W σ ρ H S o Q) S ρ R g0 (fun _ _ z => z) (fun z => z) fun rs ρ1 _ g1 xs H1 S1 R1 s1 t1 _ => ?_
  split at g1
  · rename_i ds ρ2 e
    split at g1
    · rename_i hz
      obtain ⟨S', R', d, g2⟩ := frzs_good R1 s1 t1 e g1
      exact ⟨by rw [d.length]; exact small_le hz, fun p hp => good_newL R' g2 d hp⟩
    · exact g1.elim
  · exact g1.elim
theorem star_all {env : Env} : ∀ {es : List Expr}, es.all noStar = true → (starEach es env).any (·.1) = false
  | [], _ => rfl
  | e :: es, h => by
    rw [List.all_cons, Bool.and_eq_true] at h
    rw [star_cons h.1, List.any_cons, star_all h.2]
    rfl
theorem back_any {ts : List (Bool × Sem Value)} : (backTo pos ts).any (·.1) = ts.any (·.1) := by
  unfold backTo
  rw [List.any_map]
  rfl
theorem star_any {env : Env} (h : es.all noStar = true) : (backTo pos (starEach es env)).any (·.1) = false := back_any.trans (star_all h)
theorem de_blt {id : String} {x : Str} {op : OpN} (hc : SdN X (.builtin id) op) (hg : Gl X x) (hm : X.mg x = none) (hv : bootBuiltins x = some (.builtin id)) (ha : PDA X (e :: es) as)
    (hst : (e :: es).all noStar = true) (hn : x ≠ "__name__") (hdb : (x == ("__debug__" : Str)) = false) : PDE X (.Call (.Name x p) (e :: es) [] pos) (sBlt op as) := by
  obtain ⟨r, h1, h2⟩ := hc
  rw [List.all_cons, Bool.and_eq_true] at hst
  exact ⟨fun W tk => PEimp (pe_callB h1 hg hm hv (ha.run W tk) hn hdb (star_cons hst.1) (star_any hst.2)) fun σ H Q => blt_t h2⟩
theorem de_ty {T : String} {x : Str} {op : OpN} (hc : SdN X (.type T) op) (hg : Gl X x) (hm : X.mg x = none) (hv : bootBuiltins x = some (.type T)) (ha : PDA X (e :: es) as)
    (hst : (e :: es).all noStar = true) (hn : x ≠ "__name__") (hdb : (x == ("__debug__" : Str)) = false) : PDE X (.Call (.Name x p) (e :: es) [] pos) (sBlt op as) := by
  obtain ⟨r, h1, h2⟩ := hc
  rw [List.all_cons, Bool.and_eq_true] at hst
  exact ⟨fun W tk => PEimp (pe_callTy h1 hg hm hv (ha.run W tk) hn hdb (star_cons hst.1) (star_any hst.2)) fun σ H Q => blt_t h2⟩

/-! ### tests -/
def ofC (c : Cmp2) : Op2 := fun a b => (c a b).map fun k => .v (.bl k)
theorem good_bl {K : PySem.W.Frag} {mg : MG} {W : WX} {σ : St} {ρ : DEnv} {H S : Hp} {k : Bool} {P : Bool → Hp → Prop} (R : Rep K H S σ ρ) (g : GoodT K mg W σ ρ H S (.ok k ρ) P) {Q : VK} (hQ : ∀ k H', P k H' → Q (.bl k) H') :
    GoodE K mg W σ ρ H S (.ok (.v (.bl k)) ρ) Q := fun x H' S' R' s t _ => by
  cases (show Den K S' x (.bl k) from t)
  exact hQ k H' (g H' S' R' s)
theorem dt_cmp {o : CmpOp} {c : Cmp2} (ho : Sd2 X (compareOp o) (ofC c)) (ha : PDE X a f) (hb : PDE X b g) (hm : behindInMarks o b = false) : PDT X (.Compare a [o] [b] pos) (tCmp' c f g) := by
  obtain ⟨r, h1, h2⟩ := ho
  refine ⟨fun W tk => PTimp (pt_cmpR h1 (ha.run W tk) (hb.run W tk) hm) fun σ H Q h => ?_⟩
  obtain ⟨S, ρ, R, g0⟩ := h
  refine tE_bnd (G := fun o => GoodT X.K X.mg W σ ρ H S o Q) S ρ R g0 (fun _ _ z => z) (fun z => z) fun r1 ρ1 _ g1 x H1 S1 R1 s1 t1 _ => ?_
  have g1 := GoodT.adv s1 g1
  refine tE_bnd (G := fun o => GoodT X.K X.mg W σ ρ1 H1 S1 o Q) S1 ρ1 R1 g1 (fun _ _ z => z) (fun z => z) fun r2 ρ2 _ g2 y H2 S2 R2 s2 t2 _ => ?_
  have g2 := GoodT.adv s2 g2
  have t1 := t1.stay s2
  unfold apC at g2
  split at g2
  · rename_i a' b' ea eb
    split at g2
    · rename_i z ez
      exact h2 R2 (t1.top R2 ea) (t2.top R2 eb) (show ofC c a' b' = some (.v (.bl z)) by unfold ofC; rw [ez]; rfl) (good_bl R2 g2 fun k H' q => ⟨k, rfl, q⟩)
    · exact g2.elim
  · exact g2.elim
theorem chain_t {c c' : Cmp2} {r r' : R2} {W : WX} {σ : St} {H : Hp} {P : Bool → Hp → Prop} (h2 : OpS X r (ofC c)) (h2' : OpS X r' (ofC c')) {Q : VK} (hQ : ∀ k H', P k H' → Q (.bl k) H') (hw : tT X.K X.mg W (tChn c c' f g h) σ H P) :
    tChain r r' (tE X.K X.mg W f) (tE X.K X.mg W g) (tE X.K X.mg W h) σ H Q := by
  obtain ⟨S, ρ, R, g0⟩ := hw
  refine tE_bnd (G := fun o => GoodT X.K X.mg W σ ρ H S o P) S ρ R g0 (fun _ _ z => z) (fun z => z) fun r1 ρ1 _ g1 x H1 S1 R1 s1 t1 _ => ?_
  have g1 := GoodT.adv s1 g1
  refine tE_bnd (G := fun o => GoodT X.K X.mg W σ ρ1 H1 S1 o P) S1 ρ1 R1 g1 (fun _ _ z => z) (fun z => z) fun r2 ρ2 _ g2 y H2 S2 R2 s2 t2 _ => ?_
  have g2 := GoodT.adv s2 g2
  have t1 := t1.stay s2
  unfold apC at g2
  split at g2
  · rename_i a' b' ea eb
    split at g2
    · rename_i z ez
      refine h2 (W := W) R2 (t1.top R2 ea) (t2.top R2 eb) (show ofC c a' b' = some (.v (.bl z)) by unfold ofC; rw [ez]; rfl) (Q := fun z H3 => ∃ k, z = .bl k ∧
        (if k = true then tE X.K X.mg W h σ H3 fun w' H4 => r' y w' H4 Q else Q (.bl false) H3)) ?_
      intro x' H3 S3 R3 s3 t3 _
      cases (show Den X.K S3 x' (.bl z) from t3)
      refine ⟨z, rfl, ?_⟩
      cases z with
      | false =>
        rw [if_neg Bool.false_ne_true]
        exact hQ false H3 (g2 H3 S3 R3 s3)
      | true =>
        rw [if_pos rfl]
        have g2 : GoodT X.K X.mg W σ ρ2 H2 S2 (bnd (h ρ2) fun z ρ4 => apC c' r2 z ρ4) P := g2
        have g3 := GoodT.adv s3 g2
        have t2 := t2.stay s3
        refine tE_bnd (G := fun o => GoodT X.K X.mg W σ ρ2 H3 S3 o P) S3 ρ2 R3 g3 (fun _ _ z => z) (fun z => z) fun r4 ρ4 _ g4 w' H4 S4 R4 s4 t4 _ => ?_
        have g4 := GoodT.adv s4 g4
        have t2 := t2.stay s4
        unfold apC at g4
        split at g4
        · rename_i a2 b2 ea2 eb2
          split at g4
          · rename_i z2 ez2
            exact h2' R4 (t2.top R4 ea2) (t4.top R4 eb2) (show ofC c' a2 b2 = some (.v (.bl z2)) by unfold ofC; rw [ez2]; rfl) (good_bl R4 g4 hQ)
          · exact g4.elim
        · exact g4.elim
    · exact g2.elim
  · exact g2.elim
theorem lastMarks2 {o o' : CmpOp} (h : behindInMarks o' c = false) : lastMarks [o, o'] [b, c] = false := h
theorem dt_chn {o o' : CmpOp} {k k' : Cmp2} (ho : Sd2 X (compareOp o) (ofC k)) (ho' : Sd2 X (compareOp o') (ofC k')) (ha : PDE X a f) (hb : PDE X b g) (hc : PDE X c h) (hm : behindInMarks o' c = false) :
    PDT X (.Compare a [o, o'] [b, c] pos) (tChn k k' f g h) := by
  obtain ⟨r, h1, h2⟩ := ho
  obtain ⟨r', h1', h2'⟩ := ho'
  exact ⟨fun W tk => PTimp (pt_chain h1 h1' (ha.run W tk) (hb.run W tk) (hc.run W tk) (lastMarks2 hm)) fun σ H P => chain_t h2 h2' fun k H' q => ⟨k, rfl, q⟩⟩
theorem sOfT_t {W : WX} {σ : St} {H : Hp} {Q : VK} (hw : tE X.K X.mg W (sOfT t) σ H Q) : tT X.K X.mg W t σ H fun k H' => Q (.bl k) H' := by
  obtain ⟨S, ρ, R, g0⟩ := hw
  refine tT_bnd (G := fun o => GoodE X.K X.mg W σ ρ H S o Q) S ρ R g0 (fun _ _ z => z) (fun z => z) fun b ρ1 _ g1 H1 S1 R1 s1 => ?_
  exact g1 (.bl b) H1 S1 R1 s1 (.bl b) trivial
theorem de_chn {o o' : CmpOp} {k k' : Cmp2} (ho : Sd2 X (compareOp o) (ofC k)) (ho' : Sd2 X (compareOp o') (ofC k')) (ha : PDE X a f) (hb : PDE X b g) (hc : PDE X c h) (hm : behindInMarks o' c = false) :
    PDE X (.Compare a [o, o'] [b, c] pos) (sOfT (tChn k k' f g h)) := by
  obtain ⟨r, h1, h2⟩ := ho
  obtain ⟨r', h1', h2'⟩ := ho'
  exact ⟨fun W tk => PEimp (pe_chain h1 h1' (ha.run W tk) (hb.run W tk) (hc.run W tk) (lastMarks2 hm)) fun σ H Q hq => chain_t h2 h2' (fun k H' q => q) (sOfT_t hq)⟩
theorem dt_not (ha : PDT X a t) : PDT X (.UnaryOp .Not a pos) (tNot' t) := by
  refine ⟨fun W tk => PTimp (pt_not (ha.run W tk)) fun σ H Q h => ?_⟩
  obtain ⟨S, ρ, R, g0⟩ := h
  refine tT_bnd (G := fun o => GoodT X.K X.mg W σ ρ H S o Q) S ρ R g0 (fun _ _ z => z) (fun z => z) fun b ρ1 _ g1 H1 S1 R1 s1 => ?_
  exact g1 H1 S1 R1 s1

theorem dt_val (ha : PDE X a f) (he : ∀ whole, isTrue a X.env whole = (do let v ← whole; standAt a.pos; holding [v] (truthy v))) : PDT X a (tOfS f) := by
  refine ⟨fun W tk => PTimp (pt_val (ha.run W tk) he) fun σ H Q h => ?_⟩
  obtain ⟨S, ρ, R, g0⟩ := h
  refine tE_bnd (G := fun o => GoodT X.K X.mg W σ ρ H S o Q) S ρ R g0 (fun _ _ z => z) (fun z => z) fun r1 ρ1 _ g1 x H1 S1 R1 s1 t1 _ => ?_
  split at g1
  · rename_i b eb
    rcases t1.top R1 eb with q | ⟨p, e1, e2, e3⟩
    · cases q
      exact ⟨b, rfl, g1 H1 S1 R1 s1⟩
    · exact e3.elim
  · exact g1.elim
/-- a chain of and, or as a test -/
structure PDW (X : Cx) (e : Expr) (f : Sm Bool) : Prop where
  run : ∀ W, Takes X W → PW X e (tT X.K X.mg W f)
theorem PWimp {t t' : TT} (h : PW X e t) (hi : ∀ σ H Q, t' σ H Q → t σ H Q) : PW X e t' :=
  ⟨fun wh pins s σ H Q I q => h.run wh pins s σ H Q I (hi σ H Q q)⟩
theorem PDW.pdt (h : PDW X e t) : PDT X e t := ⟨fun W tk => (h.run W tk).pt⟩
theorem dw_and1 (ha : PDT X a t) : PDW X (.BoolOp .And [a] pos) t := ⟨fun W tk => pw_and1 (ha.run W tk)⟩
theorem dw_or1 (ha : PDT X a t) : PDW X (.BoolOp .Or [a] pos) t := ⟨fun W tk => pw_or1 (ha.run W tk)⟩
theorem and_t {W : WX} {σ : St} {H : Hp} {P : Bool → Hp → Prop} (h : tT X.K X.mg W (tAnd' t u) σ H P) : tAnd (tT X.K X.mg W t) (tT X.K X.mg W u) σ H P := by
  obtain ⟨S, ρ, R, g0⟩ := h
  refine tT_bnd (G := fun o => GoodT X.K X.mg W σ ρ H S o P) S ρ R g0 (fun _ _ z => z) (fun z => z) fun b ρ1 _ g1 H1 S1 R1 s1 => ?_
  have g1 := GoodT.adv s1 g1
  cases b with
  | true => exact ⟨S1, ρ1, R1, g1⟩
  | false => exact g1 H1 S1 R1 Stp.refl
theorem or_t {W : WX} {σ : St} {H : Hp} {P : Bool → Hp → Prop} (h : tT X.K X.mg W (tOr' t u) σ H P) : tOr (tT X.K X.mg W t) (tT X.K X.mg W u) σ H P := by
  obtain ⟨S, ρ, R, g0⟩ := h
  refine tT_bnd (G := fun o => GoodT X.K X.mg W σ ρ H S o P) S ρ R g0 (fun _ _ z => z) (fun z => z) fun b ρ1 _ g1 H1 S1 R1 s1 => ?_
  have g1 := GoodT.adv s1 g1
  cases b with
  | true => exact g1 H1 S1 R1 Stp.refl
  | false => exact ⟨S1, ρ1, R1, g1⟩
theorem dw_and (ha : PDT X a t) (hb : PDW X (.BoolOp .And (b :: es) pos) u) : PDW X (.BoolOp .And (a :: b :: es) pos) (tAnd' t u) :=
  ⟨fun W tk => PWimp (pw_and (ha.run W tk) (hb.run W tk)) fun σ H Q => and_t⟩
theorem dw_or (ha : PDT X a t) (hb : PDW X (.BoolOp .Or (b :: es) pos) u) : PDW X (.BoolOp .Or (a :: b :: es) pos) (tOr' t u) :=
  ⟨fun W tk => PWimp (pw_or (ha.run W tk) (hb.run W tk)) fun σ H Q => or_t⟩
/-- and, or as values: all but the last are bools -/
def sAnd (f g : Sm Rv) : Sm Rv := fun ρ => bnd (f ρ) fun r ρ1 => match deref r ρ1 with
  | some (.bl b) => if b = true then g ρ1 else .ok (.v (.bl false)) ρ1
  | _ => .bad
def sOr (f g : Sm Rv) : Sm Rv := fun ρ => bnd (f ρ) fun r ρ1 => match deref r ρ1 with
  | some (.bl b) => if b = true then .ok (.v (.bl true)) ρ1 else g ρ1
  | _ => .bad
def sNot (f : Sm Rv) : Sm Rv := fun ρ => bnd (f ρ) fun r ρ1 => match deref r ρ1 with
  | some (.bl b) => .ok (.v (.bl (!b))) ρ1
  | _ => .bad
theorem top_bl {K : PySem.W.Frag} {H S : Hp} {x : V} {b : Bool} (h : Top K H S x (.bl b)) : x = .bl b := by
  rcases h with q | ⟨p, _, _, e3⟩
  · cases q; rfl
  · exact e3.elim
theorem de_one {o} (ha : PDE X a f) : PDE X (.BoolOp o [a] pos) f := ⟨fun W tk => pe_one (ha.run W tk)⟩
theorem de_and (ha : PDE X a f) (hb : PDE X (.BoolOp .And (b :: es) pos) g) : PDE X (.BoolOp .And (a :: b :: es) pos) (sAnd f g) := by
  refine ⟨fun W tk => PEimp (pe_and (ha.run W tk) (hb.run W tk)) fun σ H Q h => ?_⟩
  obtain ⟨S, ρ, R, g0⟩ := h
  refine tE_bnd (G := fun o => GoodE X.K X.mg W σ ρ H S o Q) S ρ R g0 (fun _ _ z => z) (fun z => z) fun r1 ρ1 _ g1 x H1 S1 R1 s1 t1 _ => ?_
  have g1 := GoodE.adv s1 g1
  split at g1
  · rename_i b eb
    refine ⟨b, top_bl (t1.top R1 eb), ?_⟩
    cases b with
    | true => exact ⟨S1, ρ1, R1, g1⟩
    | false => exact good_atom R1 g1 (.bl false)
  · exact g1.elim
theorem de_or (ha : PDE X a f) (hb : PDE X (.BoolOp .Or (b :: es) pos) g) : PDE X (.BoolOp .Or (a :: b :: es) pos) (sOr f g) := by
  refine ⟨fun W tk => PEimp (pe_or (ha.run W tk) (hb.run W tk)) fun σ H Q h => ?_⟩
  obtain ⟨S, ρ, R, g0⟩ := h
  refine tE_bnd (G := fun o => GoodE X.K X.mg W σ ρ H S o Q) S ρ R g0 (fun _ _ z => z) (fun z => z) fun r1 ρ1 _ g1 x H1 S1 R1 s1 t1 _ => ?_
  have g1 := GoodE.adv s1 g1
  split at g1
  · rename_i b eb
    refine ⟨b, top_bl (t1.top R1 eb), ?_⟩
    cases b with
    | true => exact good_atom R1 g1 (.bl true)
    | false => exact ⟨S1, ρ1, R1, g1⟩
  · exact g1.elim
theorem de_not (ha : PDE X a f) : PDE X (.UnaryOp .Not a pos) (sNot f) := by
  refine ⟨fun W tk => PEimp (pe_not (ha.run W tk)) fun σ H Q h => ?_⟩
  obtain ⟨S, ρ, R, g0⟩ := h
  refine tE_bnd (G := fun o => GoodE X.K X.mg W σ ρ H S o Q) S ρ R g0 (fun _ _ z => z) (fun z => z) fun r1 ρ1 _ g1 x H1 S1 R1 s1 t1 _ => ?_
  have g1 := GoodE.adv s1 g1
  split at g1
  · rename_i b eb
    exact ⟨b, top_bl (t1.top R1 eb), good_atom R1 g1 (.bl _)⟩
  · exact g1.elim
theorem de_if (hc : PDT X c t) (ha : PDE X a f) (hb : PDE X b g) : PDE X (.IfExp c a b pos) (sIf t f g) := by
  refine ⟨fun W tk => PEimp (pe_ifExp (hc.run W tk) (ha.run W tk) (hb.run W tk)) fun σ H Q h => ?_⟩
  obtain ⟨S, ρ, R, g0⟩ := h
  refine tT_bnd (G := fun o => GoodE X.K X.mg W σ ρ H S o Q) S ρ R g0 (fun _ _ z => z) (fun z => z) fun b ρ1 _ g1 H1 S1 R1 s1 => ?_
  have g1 := GoodE.adv s1 g1
  cases b with
  | true => exact ⟨S1, ρ1, R1, g1⟩
  | false => exact ⟨S1, ρ1, R1, g1⟩

/-! ### subscripts -/
def SdI (X : Cx) (op : Op2) : Prop := ∃ r, IxR X r ∧ OpS X r op
theorem de_ix {op : Op2} (hr : SdI X op) (ha : PDE X a f) (hb : PDE X b g) (hs : PlainIx b) : PDE X (.Subscript a b pos) (sBin op f g) := by
  obtain ⟨r, h1, h2⟩ := hr
  exact ⟨fun W tk => PEimp (pe_ix h1 (ha.run W tk) (hb.run W tk) hs) fun σ H Q => bin_t h2⟩
end
end L2.DL

/-! D layer, part 5: the operations -/
namespace L2.DL
open PySem PySem.Spec PyProof.Rows L2

section
variable {K : PySem.W.Frag} {H S : Hp} {σ : St} {ρ : DEnv} {x : V}
theorem top_int {i : Int} (h : Top K H S x (.int i)) : x = .int i := by
  rcases h with q | ⟨p, _, _, e3⟩
  · cases q; rfl
  · exact e3.elim
theorem top_str {i : Str} (h : Top K H S x (.str i)) : x = .str i := by
  rcases h with q | ⟨p, _, _, e3⟩
  · cases q; rfl
  · exact e3.elim
theorem top_non (h : Top K H S x .non) : x = .non := by
  rcases h with q | ⟨p, _, _, e3⟩
  · cases q; rfl
  · exact e3.elim
theorem top_lst {ds : List D} (R : Rep K H S σ ρ) (h : Top K H S x (.lst ds)) : ∃ a xs, x = .ref a ∧ H a = some (.lst xs) ∧ DenL K S xs ds := by
  rcases h with q | ⟨p, e1, e2, xs, e3, e4⟩
  · cases q with
    | lst e r => exact ⟨_, _, rfl, R.sub _ _ e, r⟩
  · exact ⟨p, xs, e1, e3, e4⟩
theorem top_tup {ds : List D} (h : Top K H S x (.tup ds)) : ∃ a xs, x = .ref a ∧ SqT K S a xs ∧ DenL K S xs ds := by
  rcases h with q | ⟨p, _, _, e3⟩
  · cases q with
    | tup e r => exact ⟨_, _, rfl, e, r⟩
  · exact e3.elim
theorem top_scr {ds : List Int} (h : Top K H S x (.scr ds)) : ∃ a, x = .ref a ∧ SqL K S a (ds.map V.int) := by
  rcases h with q | ⟨p, _, _, e3⟩
  · cases q with
    | scr e => exact ⟨_, rfl, e⟩
  · exact e3.elim
end

/-! ### numbers, lists, texts, tuples by operators -/
noncomputable def dAdd : Op2
  | .int i, .int j => some (.v (.int (i + j)))
  | .lst a, .lst b => if small (a.length + b.length) = true then some (.f (.lst (a ++ b))) else none
  | .str a, .str b => if small (a.length + b.length) = true then some (.v (.str (a ++ b))) else none
  | .tup a, .tup b => if small (a.length + b.length) = true then some (.v (.tup (a ++ b))) else none
  | _, _ => none
noncomputable def dSub : Op2
  | .int i, .int j => some (.v (.int (i - j)))
  | _, _ => none
noncomputable def mulOk (i j : Int) : Bool := cd ((-(2 ^ 64) < i ∧ i < 2 ^ 64) ∨ (-(2 ^ 64) < j ∧ j < 2 ^ 64))
noncomputable def dMul : Op2
  | .int i, .int j => if mulOk i j = true then some (.v (.int (i * j))) else none
  | .lst a, .int k => if cd ((-(2 ^ 63) ≤ k ∧ k < 2 ^ 63) ∧ a.length * k.toNat ≤ 16777216) = true then some (.f (.lst (List.replicate k.toNat a).flatten)) else none
  | _, _ => none
noncomputable def dMod : Op2
  | .int i, .int j => if cd (0 < j) = true then some (.v (.int (i % j))) else none
  | _, _ => none
noncomputable def dDiv : Op2
  | .int i, .int j => if cd (0 < j ∧ j < 1073741824) = true then some (.v (.int (i / j))) else none
  | _, _ => none
noncomputable def dPow : Op2
  | .int i, .int j => if cd (0 ≤ j ∧ j ≤ 1000000 ∧ i.natAbs < 2 ^ 64) = true then some (.v (.int (i ^ j.toNat))) else none
  | _, _ => none
noncomputable def dNeg : D → Option Rv
  | .int i => some (.v (.int (-i)))
  | _ => none

section
variable {X : Cx}
theorem sd_add : Sd2 X (binaryOp .Add) dAdd := by
  refine ⟨_, op_add.or (op_cat.or (op_add_str.or op_catA)), fun {W σ ρ H S x y a b q Q} R tx ty e g => ?_⟩
  unfold dAdd at e
  split at e
  · cases e
    obtain rfl := top_int tx
    obtain rfl := top_int ty
    exact .inl ⟨_, _, rfl, rfl, good_atom R g (.int _)⟩
  · split at e
    · rename_i hz
      cases e
      obtain ⟨p, xs, rfl, hp, dp⟩ := top_lst R tx
      obtain ⟨r, ys, rfl, hr, dr⟩ := top_lst R ty
      exact .inr (.inl ⟨p, r, xs, ys, rfl, rfl, hp, hr, by rw [dp.length, dr.length]; exact small_le hz, fun z hz => good_newL R g (dp.append dr) hz⟩)
    · cases e
  · split at e
    · rename_i hz
      cases e
      obtain rfl := top_str tx
      obtain rfl := top_str ty
      exact .inr (.inr (.inl ⟨_, _, rfl, rfl, small_le hz, good_atom R g (.str _)⟩))
    · cases e
  · split at e
    · rename_i hz
      cases e
      obtain ⟨p, xs, rfl, hp, dp⟩ := top_tup tx
      obtain ⟨r, ys, rfl, hr, dr⟩ := top_tup ty
      refine .inr (.inr (.inr ⟨p, r, xs, ys, rfl, rfl, R.sub.seqT hp, R.sub.seqT hr, by rw [dp.length, dr.length]; exact small_le hz, fun z => ?_, fun _ z => ?_, fun _ _ z hz => good_newT R g (dp.append dr) hz⟩))
      · subst z
        cases dp
        exact good_atom R g (.tup hr dr)
      · subst z
        cases dr
        rw [List.append_nil] at g
        exact good_atom R g (.tup hp dp)
    · cases e
  · cases e
theorem sd_sub : Sd2 X (binaryOp .Sub) dSub := by
  refine ⟨_, op_sub, fun {W σ ρ H S x y a b q Q} R tx ty e g => ?_⟩
  unfold dSub at e
  split at e
  · cases e
    obtain rfl := top_int tx
    obtain rfl := top_int ty
    exact ⟨_, _, rfl, rfl, good_atom R g (.int _)⟩
  · cases e
theorem mulOk_c {i j : Int} (h : mulOk i j = true) : CMul i j := by
  exact cd_iff.mp h
theorem sd_mul : Sd2 X (binaryOp .Mult) dMul := by
  refine ⟨_, op_mul.or op_rep, fun {W σ ρ H S x y a b q Q} R tx ty e g => ?_⟩
  unfold dMul at e
  split at e
  · split at e
    · rename_i hz
      cases e
      obtain rfl := top_int tx
      obtain rfl := top_int ty
      exact .inl ⟨_, _, rfl, rfl, mulOk_c hz, good_atom R g (.int _)⟩
    · cases e
  · split at e
    · rename_i hz
      cases e
      obtain ⟨p, xs, rfl, hp, dp⟩ := top_lst R tx
      obtain rfl := top_int ty
      have hz := cd_iff.mp hz
      exact .inr ⟨p, _, xs, rfl, rfl, hp, hz.1.1, hz.1.2, by rw [dp.length, sizeLine_eq]; exact hz.2, fun z hz => good_newL R g (dp.rep _) hz⟩
    · cases e
  · cases e
theorem sd_mod : Sd2 X (binaryOp .Mod) dMod := by
  refine ⟨_, op_mod, fun {W σ ρ H S x y a b q Q} R tx ty e g => ?_⟩
  unfold dMod at e
  split at e
  · split at e
    · rename_i hz
      cases e
      obtain rfl := top_int tx
      obtain rfl := top_int ty
      exact ⟨_, _, rfl, rfl, cd_iff.mp hz, good_atom R g (.int _)⟩
    · cases e
  · cases e
theorem sd_div : Sd2 X (binaryOp .FloorDiv) dDiv := by
  refine ⟨_, op_fdiv, fun {W σ ρ H S x y a b q Q} R tx ty e g => ?_⟩
  unfold dDiv at e
  split at e
  · split at e
    · rename_i hz
      cases e
      obtain rfl := top_int tx
      obtain rfl := top_int ty
      exact ⟨_, _, rfl, rfl, cd_iff.mp hz, good_atom R g (.int _)⟩
    · cases e
  · cases e
theorem sd_pow : Sd2 X (binaryOp .Pow) dPow := by
  refine ⟨_, op_pow, fun {W σ ρ H S x y a b q Q} R tx ty e g => ?_⟩
  unfold dPow at e
  split at e
  · split at e
    · rename_i hz
      cases e
      obtain rfl := top_int tx
      obtain rfl := top_int ty
      exact ⟨_, _, rfl, rfl, cd_iff.mp hz, good_atom R g (.int _)⟩
    · cases e
  · cases e
theorem sd_neg : Sd1 X (unaryOp .USub) dNeg := by
  refine ⟨_, un_neg, fun {W σ ρ H S x a q Q} R tx e g => ?_⟩
  unfold dNeg at e
  split at e
  · cases e
    obtain rfl := top_int tx
    exact ⟨_, rfl, good_atom R g (.int _)⟩
  · cases e
end

/-! ### comparisons -/
mutual
def D.py : D → Option PyData
  | .non => some .none
  | .bl b => some (.bool b)
  | .int i => some (.int i)
  | .str s => some (.str s)
  | .tup l => match pyL l with
    | some xs => some (.tuple xs)
    | none => none
  | .lst l => match pyL l with
    | some xs => some (.list xs)
    | none => none
  | _ => none
def pyL : List D → Option (List PyData)
  | [] => some []
  | d :: ds => match D.py d, pyL ds with
    | some x, some xs => some (x :: xs)
    | _, _ => none
end
mutual
theorem Den.dp {K : PySem.W.Frag} {S : Hp} : ∀ {d : D} {v : V} {p : PyData}, Den K S v d → d.py = some p → Dp K S v p
  | .non, _, _, .non, e => by simp only [D.py] at e; cases e; exact .non
  | .bl b, _, _, .bl _, e => by simp only [D.py] at e; cases e; exact .bl b
  | .int b, _, _, .int _, e => by simp only [D.py] at e; cases e; exact .int b
  | .str b, _, _, .str _, e => by simp only [D.py] at e; cases e; exact .str b
  | .tup l, _, _, .tup h r, e => by
    simp only [D.py] at e
    split at e
    · rename_i xs q
      cases e
      exact .tup h (DenL.dp r q)
    · cases e
  | .lst l, _, _, .lst h r, e => by
    simp only [D.py] at e
    split at e
    · rename_i xs q
      cases e
      exact .lst (.inl (.inl h)) (DenL.dp r q)
    · cases e
  | .scr l, _, _, .scr h, e => by simp only [D.py] at e; cases e
theorem DenL.dp {K : PySem.W.Frag} {S : Hp} : ∀ {ds : List D} {vs : List V} {ps : List PyData}, DenL K S vs ds → pyL ds = some ps → DpAll K S vs ps
  | [], _, _, .nil, e => by simp only [pyL] at e; cases e; exact .nil
  | d :: ds, _, _, .cons h r, e => by
    simp only [pyL] at e
    split at e
    · rename_i x xs q1 q2
      cases e
      exact .cons (Den.dp h q1) (DenL.dp r q2)
    · cases e
end
mutual
theorem dp_sub {K : PySem.W.Frag} {S H : Hp} (e : Sub S H) : ∀ {p : PyData} {v : V}, Dp K S v p → Dp K H v p
  | _, _, .non => .non
  | _, _, .bl b => .bl b
  | _, _, .int i => .int i
  | _, _, .str x => .str x
  | _, _, .lst h r => .lst (e.seqL h) (dps_sub e r)
  | _, _, .tup h r => .tup (e.seqT h) (dps_sub e r)
theorem dps_sub {K : PySem.W.Frag} {S H : Hp} (e : Sub S H) : ∀ {p : List PyData} {v : List V}, DpAll K S v p → DpAll K H v p
  | _, _, .nil => .nil
  | _, _, .cons h r => .cons (dp_sub e h) (dps_sub e r)
end
theorem Top.dp {K : PySem.W.Frag} {H S : Hp} {σ : St} {ρ : DEnv} {x : V} {d : D} {p : PyData} (R : Rep K H S σ ρ) (t : Top K H S x d) (e : d.py = some p) : Dp K H x p := by
  rcases t with q | ⟨a, e1, e2, e3⟩
  · exact dp_sub R.sub (q.dp e)
  · subst e1
    cases d with
    | lst ds =>
      obtain ⟨xs, e3, e4⟩ := e3
      simp only [D.py] at e
      split at e
      · rename_i xs q
        cases e
        exact .lst (.inl (.inl e3)) (dps_sub R.sub (e4.dp q))
      · cases e
    | _ => exact e3.elim
def dEq : Cmp2 := fun a b => match a.py, b.py with
  | some p, some q => if (SeqAt.shaped p && SeqAt.shaped q) = true then some (PyData.eqv p q) else none
  | _, _ => none
def dNe : Cmp2 := fun a b => (dEq a b).map not
section
variable {X : Cx}
theorem ofC_some {c : Cmp2} {a b : D} {q : Rv} (e : ofC c a b = some q) : ∃ k, c a b = some k ∧ q = .v (.bl k) := by
  unfold ofC at e
  cases h : c a b with
  | none => rw [h] at e; cases e
  | some k => rw [h] at e; cases e; exact ⟨k, rfl, rfl⟩
theorem sd_eq (hu : X.A.units + 64 < cLine) : Sd2 X (compareOp .Eq) (ofC dEq) := by
  refine ⟨_, op_eqD hu, fun {W σ ρ H S x y a b q Q} R tx ty e g => ?_⟩
  obtain ⟨k, e1, rfl⟩ := ofC_some e
  unfold dEq at e1
  split at e1
  · rename_i p q ep eq
    split at e1
    · rename_i hs
      cases e1
      rw [Bool.and_eq_true] at hs
      exact ⟨p, q, tx.dp R ep, ty.dp R eq, hs.1, hs.2, good_atom R g (.bl _)⟩
    · cases e1
  · cases e1
theorem sd_ne (hu : X.A.units + 64 < cLine) : Sd2 X (compareOp .NotEq) (ofC dNe) := by
  refine ⟨_, op_neD hu, fun {W σ ρ H S x y a b q Q} R tx ty e g => ?_⟩
  obtain ⟨k, e1, rfl⟩ := ofC_some e
  unfold dNe dEq at e1
  split at e1
  · rename_i p q ep eq
    split at e1
    · rename_i hs
      cases e1
      rw [Bool.and_eq_true] at hs
      exact ⟨p, q, tx.dp R ep, ty.dp R eq, hs.1, hs.2, good_atom R g (.bl _)⟩
    · cases e1
  · cases e1
/-- is, is not: of None and of bools -/
def dIs : Cmp2
  | .non, .non => some true
  | _, .non => some false
  | .bl a, .bl b => some (decide (a = b))
  | _, _ => none
def dIsNot : Cmp2 := fun a b => (dIs a b).map not
theorem dis_non {K : PySem.W.Frag} {H S : Hp} {x : V} {a : D} {k : Bool} (t : Top K H S x a) (e : dIs a .non = some k) : k = decide (x = .non) := by
  cases a with
  | non => cases e; rw [top_non t]; rfl
  | _ =>
    cases e
    rcases t with q | ⟨p, e1, _, e3⟩
    · cases q <;> rfl
    · subst e1; rfl
theorem sd_is : Sd2 X (compareOp .Is) (ofC dIs) := by
  refine ⟨_, op_isN.or op_isBl, fun {W σ ρ H S x y a b q Q} R tx ty e g => ?_⟩
  obtain ⟨k, e1, rfl⟩ := ofC_some e
  cases b with
  | non =>
    have ek := dis_non tx e1
    obtain rfl := top_non ty
    exact .inl ⟨rfl, by rw [← ek]; exact good_atom R g (.bl _)⟩
  | bl c =>
    cases a with
    | bl d =>
      cases e1
      obtain rfl := top_bl tx
      obtain rfl := top_bl ty
      exact .inr ⟨_, _, rfl, rfl, good_atom R g (.bl _)⟩
    | _ => cases e1
  | _ => cases a <;> cases e1
theorem sd_isnot : Sd2 X (compareOp .IsNot) (ofC dIsNot) := by
  refine ⟨_, op_notN.or op_notBl, fun {W σ ρ H S x y a b q Q} R tx ty e g => ?_⟩
  obtain ⟨k, e1, rfl⟩ := ofC_some e
  unfold dIsNot at e1
  cases ed : dIs a b with
  | none => rw [ed] at e1; cases e1
  | some k0 =>
    rw [ed] at e1
    cases e1
    cases b with
    | non =>
      have ek := dis_non tx ed
      obtain rfl := top_non ty
      exact .inl ⟨rfl, by rw [← ek]; exact good_atom R g (.bl _)⟩
    | bl c =>
      cases a with
      | bl d =>
        cases ed
        obtain rfl := top_bl tx
        obtain rfl := top_bl ty
        exact .inr ⟨_, _, rfl, rfl, good_atom R g (.bl _)⟩
      | _ => cases ed
    | _ => cases a <;> cases ed
/-- in, not in a list -/
def dIn : Cmp2 := fun a b => match a.py, b.py with
  | some p, some (.list qs) => if (SeqAt.shaped p && SeqAt.shaped (.list qs)) = true then some (qs.any fun z => PyData.eqv z p) else none
  | _, _ => none
def dNotIn : Cmp2 := fun a b => (dIn a b).map not
theorem sd_in (hu : X.A.units + 65 < cLine) : Sd2 X (compareOp .In) (ofC dIn) := by
  refine ⟨_, op_inD hu, fun {W σ ρ H S x y a b q Q} R tx ty e g => ?_⟩
  obtain ⟨k, e1, rfl⟩ := ofC_some e
  unfold dIn at e1
  split at e1
  · rename_i p qs ep eq
    split at e1
    · rename_i hs
      cases e1
      rw [Bool.and_eq_true] at hs
      exact ⟨p, qs, tx.dp R ep, ty.dp R eq, hs.1, hs.2, good_atom R g (.bl _)⟩
    · cases e1
  · cases e1
theorem sd_notin (hu : X.A.units + 65 < cLine) : Sd2 X (compareOp .NotIn) (ofC dNotIn) := by
  refine ⟨_, op_notInD hu, fun {W σ ρ H S x y a b q Q} R tx ty e g => ?_⟩
  obtain ⟨k, e1, rfl⟩ := ofC_some e
  unfold dNotIn dIn at e1
  split at e1
  · rename_i p qs ep eq
    split at e1
    · rename_i hs
      cases e1
      rw [Bool.and_eq_true] at hs
      exact ⟨p, qs, tx.dp R ep, ty.dp R eq, hs.1, hs.2, good_atom R g (.bl _)⟩
    · cases e1
  · cases e1
end
end L2.DL

/-! D layer, part 6: order, sorting, built-ins, subscripts -/
namespace L2.DL
open PySem PySem.Spec PyProof.Rows L2

/-! ### order -/
def shallow (p : PyData) : Bool := decide (p.depth ≤ 64)
def isNone : PyData → Bool
  | .none => true
  | _ => false
def ordP (f : PyData → PyData → Bool) : Cmp2 := fun a b => match a.py, b.py with
  | some p, some q => if (PySem.W.alike p q && !isNone p && shallow p) = true then some (f p q) else none
  | _, _ => none
noncomputable def dLt : Cmp2
  | .int i, .int j => some (cd (i < j))
  | a, b => ordP (fun p q => PySem.W.dataLt p q) a b
noncomputable def dGt : Cmp2
  | .int i, .int j => some (cd (j < i))
  | a, b => ordP (fun p q => PySem.W.dataLt q p) a b
noncomputable def dLe : Cmp2
  | .int i, .int j => some (cd (i ≤ j))
  | a, b => ordP (fun p q => !PySem.W.dataLt q p) a b
noncomputable def dGe : Cmp2
  | .int i, .int j => some (cd (j ≤ i))
  | a, b => ordP (fun p q => !PySem.W.dataLt p q) a b
section
variable {X : Cx}
def rOrd (K : PySem.W.Frag) (f : PyData → PyData → Bool) : R2 := fun x y H Q => ∃ p q, Dp K H x p ∧ Dp K H y q ∧ PySem.W.alike p q = true ∧ p ≠ .none ∧ p.depth ≤ 64 ∧ Q (.bl (f p q)) H
theorem room_ord {A : Around} {p q : PyData} (hu : A.units + 64 < cLine) (h : p.depth ≤ 64) : A.units + min p.depth q.depth < cLine := by
  have h2 : min p.depth q.depth ≤ p.depth := Nat.min_le_left _ _
  omega
theorem op_ltP (hu : X.A.units + 64 < cLine) : OpR X (compareOp .Lt) (rOrd X.K fun p q => PySem.W.dataLt p q) := by
  intro pins s σ H x y v u Q I rx ry h
  obtain ⟨d, e, hd, he, al, nn, dp, q⟩ := h
  obtain ⟨as, r1⟩ := Dp.reads I d x v hd rx
  obtain ⟨bs, r2⟩ := Dp.reads I e y u he ry
  exact PySem.W.lt_data r1 r2 al nn (room_ord hu dp) ⟨.bl _, H, I, rfl, q⟩
theorem op_gtP (hu : X.A.units + 64 < cLine) : OpR X (compareOp .Gt) (rOrd X.K fun p q => PySem.W.dataLt q p) := by
  intro pins s σ H x y v u Q I rx ry h
  obtain ⟨d, e, hd, he, al, nn, dp, q⟩ := h
  obtain ⟨as, r1⟩ := Dp.reads I d x v hd rx
  obtain ⟨bs, r2⟩ := Dp.reads I e y u he ry
  exact PySem.W.gt_data r1 r2 al nn (room_ord hu dp) ⟨.bl _, H, I, rfl, q⟩
theorem op_leP (hu : X.A.units + 64 < cLine) : OpR X (compareOp .LtE) (rOrd X.K fun p q => !PySem.W.dataLt q p) := by
  intro pins s σ H x y v u Q I rx ry h
  obtain ⟨d, e, hd, he, al, nn, dp, q⟩ := h
  obtain ⟨as, r1⟩ := Dp.reads I d x v hd rx
  obtain ⟨bs, r2⟩ := Dp.reads I e y u he ry
  exact PySem.W.le_data r1 r2 al nn (room_ord hu dp) ⟨.bl _, H, I, rfl, q⟩
theorem op_geP (hu : X.A.units + 64 < cLine) : OpR X (compareOp .GtE) (rOrd X.K fun p q => !PySem.W.dataLt p q) := by
  intro pins s σ H x y v u Q I rx ry h
  obtain ⟨d, e, hd, he, al, nn, dp, q⟩ := h
  obtain ⟨as, r1⟩ := Dp.reads I d x v hd rx
  obtain ⟨bs, r2⟩ := Dp.reads I e y u he ry
  exact PySem.W.ge_data r1 r2 al nn (room_ord hu dp) ⟨.bl _, H, I, rfl, q⟩
theorem notNone {p : PyData} (h : (!isNone p) = true) : p ≠ .none := fun z => by subst z; cases h
theorem ord_sd {F : Value → Value → Sem Value} {f : PyData → PyData → Bool} {g : Int → Int → Bool} {c : Cmp2} (h1 : OpR X F (rI0 fun i j => .bl (g i j))) (h2 : OpR X F (rOrd X.K f))
    (hc : ∀ a b, c a b = match a, b with | .int i, .int j => some (g i j) | a, b => ordP f a b) : Sd2 X F (ofC c) := by
  refine ⟨_, h1.or h2, fun {W σ ρ H S x y a b q Q} R tx ty e g => ?_⟩
  obtain ⟨k, e1, rfl⟩ := ofC_some e
  rw [hc] at e1
  split at e1
  · cases e1
    obtain rfl := top_int tx
    obtain rfl := top_int ty
    exact .inl ⟨_, _, rfl, rfl, good_atom R g (.bl _)⟩
  · unfold ordP at e1
    split at e1
    · rename_i p q ep eq
      split at e1
      · rename_i hs
        cases e1
        rw [Bool.and_eq_true, Bool.and_eq_true] at hs
        exact .inr ⟨p, q, tx.dp R ep, ty.dp R eq, hs.1.1, notNone hs.1.2, of_decide_eq_true hs.2, good_atom R g (.bl _)⟩
      · cases e1
    · cases e1
theorem sd_lt (hu : X.A.units + 64 < cLine) : Sd2 X (compareOp .Lt) (ofC dLt) := ord_sd op_lt (op_ltP hu) fun a b => by unfold dLt; split <;> first | rfl | rw [cd_eq]
theorem sd_gt (hu : X.A.units + 64 < cLine) : Sd2 X (compareOp .Gt) (ofC dGt) := ord_sd op_gt (op_gtP hu) fun a b => by unfold dGt; split <;> first | rfl | rw [cd_eq]
theorem sd_le (hu : X.A.units + 64 < cLine) : Sd2 X (compareOp .LtE) (ofC dLe) := ord_sd op_le (op_leP hu) fun a b => by unfold dLe; split <;> first | rfl | rw [cd_eq]
theorem sd_ge (hu : X.A.units + 64 < cLine) : Sd2 X (compareOp .GtE) (ofC dGe) := ord_sd op_ge (op_geP hu) fun a b => by unfold dGe; split <;> first | rfl | rw [cd_eq]
end

/-! ### sorting -/
section
variable {α : Type} {le : α → α → Bool}
def ins (le : α → α → Bool) (x : α) : List α → List α
  | [] => [x]
  | y :: ys => if le x y = true then x :: y :: ys else y :: ins le x ys
def isort (le : α → α → Bool) : List α → List α
  | [] => []
  | x :: xs => ins le x (isort le xs)
theorem ins_mem {x z : α} : ∀ {l : List α}, z ∈ ins le x l ↔ z = x ∨ z ∈ l
  | [] => by simp [ins]
  | y :: ys => by
    unfold ins
    split
    · simp
    · simp only [List.mem_cons, ins_mem]
      exact ⟨fun h => h.elim (fun z => .inr (.inl z)) fun h => h.elim .inl fun z => .inr (.inr z), fun h => h.elim (fun z => .inr (.inl z)) fun h => h.elim .inl fun z => .inr (.inr z)⟩
theorem isort_perm : ∀ l : List α, (isort le l).Perm l
  | [] => .nil
  | x :: xs => by
    have h : ∀ l : List α, (ins le x l).Perm (x :: l) := fun l => by
      induction l with
      | nil => exact .refl _
      | cons y ys ih =>
        unfold ins
        split
        · exact .refl _
        · exact (ih.cons y).trans (.swap x y ys)
    exact (h _).trans ((isort_perm xs).cons x)
theorem isort_pw (h : PySem.W.TotalLe le) : ∀ l : List α, (isort le l).Pairwise fun a b => le a b = true
  | [] => .nil
  | x :: xs => by
    have q : ∀ l : List α, l.Pairwise (fun a b => le a b = true) → (ins le x l).Pairwise fun a b => le a b = true := fun l => by
      induction l with
      | nil => exact fun _ => List.pairwise_singleton _ _
      | cons y ys ih =>
        intro hp
        obtain ⟨h1, h2⟩ := List.pairwise_cons.mp hp
        unfold ins
        split
        · rename_i hxy
          refine List.pairwise_cons.mpr ⟨fun z hz => ?_, hp⟩
          rcases List.mem_cons.mp hz with rfl | hz
          · exact hxy
          · exact h.trans _ _ _ hxy (h1 z hz)
        · rename_i hxy
          refine List.pairwise_cons.mpr ⟨fun z hz => ?_, ih h2⟩
          rcases ins_mem.mp hz with rfl | hz
          · exact (h.total y z).elim id fun e => absurd e hxy
          · exact h1 z hz
    exact q _ (isort_pw h xs)
theorem isort_stable (h : PySem.W.TotalLe le) (c : α) : ∀ l : List α, (isort le l).filter (PySem.W.sameRank le c) = l.filter (PySem.W.sameRank le c)
  | [] => rfl
  | x :: xs => by
    have q : ∀ l : List α, l.Pairwise (fun a b => le a b = true) → (ins le x l).filter (PySem.W.sameRank le c) = (x :: l).filter (PySem.W.sameRank le c) := fun l => by
      induction l with
      | nil => exact fun _ => rfl
      | cons y ys ih =>
        intro hp
        obtain ⟨h1, h2⟩ := List.pairwise_cons.mp hp
        unfold ins
        split
        · rfl
        · rename_i hxy
          rw [List.filter_cons, ih h2, List.filter_cons, List.filter_cons (x := x) (xs := y :: ys), List.filter_cons (x := y) (xs := ys)]
          by_cases cx : PySem.W.sameRank le c x = true
          · have cy : PySem.W.sameRank le c y = false := by
              cases e : PySem.W.sameRank le c y with
              | false => rfl
              | true =>
                unfold PySem.W.sameRank at cx e
                rw [Bool.and_eq_true] at cx e
                exact absurd (h.trans _ _ _ cx.2 e.1) hxy
            rw [cy]
            simp [cx]
          · rw [if_neg cx, if_neg cx]
    show (ins le x (isort le xs)).filter _ = _
    rw [q _ (isort_pw h xs), List.filter_cons, List.filter_cons, isort_stable h c xs]
theorem isort_eq (h : PySem.W.TotalLe le) (l : List α) : isort le l = l.mergeSort le := PySem.W.sort_unique h (isort_pw h l) fun c => isort_stable h c l
end
def enc (d : D) : PyData := d.py.getD .none
def leD : D → D → Bool
  | .int i, .int j => decide (i ≤ j)
  | a, b => !PySem.W.dataLt (enc b) (enc a)
theorem leD_eq : leD = PySem.W.dataLe false enc := by
  funext a b
  show leD a b = !PySem.W.dataLt (enc b) (enc a)
  unfold leD
  split
  · rename_i i j
    show decide (i ≤ j) = !PySem.W.dataLt (.int j) (.int i)
    rw [PySem.W.dataLt_int, PySem.W.not_lt_int]
  · rfl
/-- all alike, all with a rank -/
def oneTup : PyData → Bool
  | .tuple (_ :: _) => true
  | _ => false
def noTup : PyData → Bool
  | .tuple _ => false
  | .none => false
  | _ => true
def sortOk (ps : List PyData) : Bool := ps.all (fun p => ps.all fun q => PySem.W.alike p q) && (ps.all oneTup || ps.all noTup) && ps.all shallow
def allInt : List D → Bool
  | [] => true
  | .int _ :: r => allInt r
  | _ => false
def sortable (ds : List D) : Bool := allInt ds || match pyL ds with
  | some ps => sortOk ps
  | none => false
theorem pyL_map : ∀ {ds : List D} {ps : List PyData}, pyL ds = some ps → ds.map enc = ps
  | [], _, e => by simp only [pyL] at e; cases e; rfl
  | d :: ds, _, e => by
    simp only [pyL] at e
    split at e
    · rename_i x xs q1 q2
      cases e
      rw [List.map_cons, pyL_map q2]
      unfold enc
      rw [q1]; rfl
    · cases e
theorem allInt_py : ∀ {ds : List D}, allInt ds = true → ∃ ns : List Int, ds = ns.map D.int ∧ pyL ds = some (ns.map PyData.int)
  | [], _ => ⟨[], rfl, by simp only [pyL, List.map_nil]⟩
  | .int i :: r, h => by
    obtain ⟨ns, e1, e2⟩ := allInt_py (ds := r) h
    exact ⟨i :: ns, by rw [e1]; rfl, by simp only [pyL, e2, D.py, List.map_cons]⟩
  | .non :: _, h => nomatch h
  | .bl _ :: _, h => nomatch h
  | .str _ :: _, h => nomatch h
  | .tup _ :: _, h => nomatch h
  | .lst _ :: _, h => nomatch h
  | .dic _ :: _, h => nomatch h
  | .scr _ :: _, h => nomatch h
  | .fn _ :: _, h => nomatch h
theorem sortable_of {ds : List D} (h : sortable ds = true) : ∃ ps, pyL ds = some ps ∧ PySem.W.AllAlike ps ∧ PySem.W.Sortable ps ∧ ∀ p ∈ ps, p.depth ≤ 64 := by
  unfold sortable at h
  rw [Bool.or_eq_true] at h
  rcases h with h | h
  · obtain ⟨ns, e1, e2⟩ := allInt_py h
    refine ⟨_, e2, PySem.W.AllAlike.of fun b b' => by simp [PySem.W.alike], PySem.W.Sortable.others fun b => ⟨fun z => (nomatch z), fun xs z => (nomatch z)⟩, fun p hp => ?_⟩
    obtain ⟨i, _, rfl⟩ := List.mem_map.mp hp
    simp [PyData.depth]
  · split at h
    · rename_i ps q
      unfold sortOk at h
      rw [Bool.and_eq_true, Bool.and_eq_true, Bool.or_eq_true] at h
      refine ⟨ps, q, fun d hd d' hd' => List.all_eq_true.mp (List.all_eq_true.mp h.1.1 d hd) d' hd', ?_, fun p hp => of_decide_eq_true (List.all_eq_true.mp h.2 p hp)⟩
      rcases h.1.2 with z | z
      · exact .inl fun d hd => by
          have y := List.all_eq_true.mp z d hd
          unfold oneTup at y
          split at y
          · exact ⟨_, _, rfl⟩
          · cases y
      · exact .inr fun d hd => by
          have y := List.all_eq_true.mp z d hd
          unfold noTup at y
          split at y
          · cases y
          · cases y
          · rename_i h1 h2
            exact ⟨fun e => h2 e, fun xs e => h1 xs e⟩
    · cases h
/-- a value of the heap stands for the data -/
def Bth (K : PySem.W.Frag) (S : Hp) (u : Value) (d : D) : Prop := ∃ v, RelV v u ∧ Den K S v d
theorem each_of {K : PySem.W.Frag} {S : Hp} : ∀ {xs : List V} {us : List Value} {ds : List D}, Vals xs us → DenL K S xs ds → PySem.W.EachIs (Bth K S) us ds
  | _, _, _, .nil, .nil => .nil
  | _, _, _, .cons r rs, .cons h hs => .cons ⟨_, r, h⟩ (each_of rs hs)
theorem of_each {K : PySem.W.Frag} {S : Hp} : ∀ {us : List Value} {ds : List D}, PySem.W.EachIs (Bth K S) us ds → ∃ xs, Vals xs us ∧ DenL K S xs ds
  | _, _, .nil => ⟨[], .nil, .nil⟩
  | _, _, .cons ⟨v, r, h⟩ rs =>
    let ⟨xs, a, b⟩ := of_each rs
    ⟨v :: xs, .cons r a, .cons h b⟩
noncomputable def dSorted : OpN
  | [.lst ds] => if (sortable ds && small ds.length) = true then some (.f (.lst (isort leD ds))) else none
  | _ => none
section
variable {X : Cx}
def rSortD (K : PySem.W.Frag) : List V → Hp → VK → Prop := fun vs H Q => ∃ (a : Addr) (xs : List V) (S : Hp) (ds : List D), vs = [.ref a] ∧ H a = some (.lst xs) ∧ Sub S H ∧ DenL K S xs ds ∧ sortable ds = true ∧ ds.length ≤ sizeLine ∧
  ∀ ys p, DenL K S ys (isort leD ds) → H p = none → Q (.ref p) (upd H p (.lst ys))
theorem each_reads {pins : List (Addr × Obj)} {σ : St} {H S : Hp} {s : Shared} (I : Inv X pins σ H s) (hs : Sub S H) : ∀ {xs : List V} {us : List Value} {ds : List D} {ps : List PyData}, Vals xs us → DenL X.K S xs ds → pyL ds = some ps → PySem.W.EachIs (fun v d => ∃ as, Reads s.heap v (enc d) as) us ds
  | _, _, _, _, .nil, .nil, _ => .nil
  | _, _, d :: _, _, .cons r rs, .cons h hs', e => by
    simp only [pyL] at e
    split at e
    · rename_i x xs q1 q2
      cases e
      refine .cons ?_ (each_reads I hs rs hs' q2)
      have eq : enc d = x := by unfold enc; rw [q1]; rfl
      rw [eq]
      exact Dp.reads I x _ _ (dp_sub hs (h.dp q1)) r
    · cases e
theorem cr_sortD (hu : X.A.units + 70 < cLine) : CallR X (.builtin "sorted") (rSortD X.K) := by
  intro pins s σ H vs us Q I r h
  obtain ⟨a, xs, S, ds, rfl, hH, hS, hd, so, hz, q⟩ := h
  obtain ⟨its, rv, hl, hz2⟩ := I.list (SqL.of hH)
  rw [Vals.ref1 r]
  obtain ⟨ps, e1, al, sk, dp⟩ := sortable_of so
  have em := pyL_map e1
  refine PySem.W.sorted_data (bs := ds) (enc := enc) (R := Bth X.K S) hl.isList (each_of rv hd) (each_reads I hS rv hd e1) (by rw [em]; exact al) (by rw [em]; exact sk) hz (fun b hb => ?_) fun out ho he => ?_
  · have := dp (enc b) (by rw [← em]; exact List.mem_map.mpr ⟨b, hb, rfl⟩)
    omega
  · rw [← leD_eq, ← isort_eq (leD_eq ▸ PySem.W.sortLe_total _ _ _)] at he
    obtain ⟨ys, rv', hd'⟩ := of_each he
    obtain ⟨ep, he'⟩ := PyProof.Rows.sortedAll_at s.heap its out.toArray
    have hlen : ys.length ≤ sizeLine := by
      rw [hd'.length, (isort_perm (le := leD) ds).length_eq]
      exact hz
    exact ⟨.ref _, upd H (s.heap.objs.size + 1) (.lst ys), I.laid (t' := s.toks) (fun _ _ => PyProof.Rows.sortedAll_old) (Nat.le_succ _) ⟨hlen, out, ep, rv', he'⟩, rfl, q _ _ hd' (I.hok.fresh (Nat.le_succ _))⟩
theorem sn_sorted (hu : X.A.units + 70 < cLine) : SdN X (.builtin "sorted") dSorted := by
  refine ⟨_, cr_sortD hu, fun {W σ ρ H S xs ds q Q} R tx e g => ?_⟩
  unfold dSorted at e
  split at e
  · split at e
    · rename_i hz
      cases e
      rw [Bool.and_eq_true] at hz
      cases tx with
      | cons t r =>
        cases r
        obtain ⟨p, xs, rfl, hp, dp⟩ := top_lst R t
        exact ⟨p, xs, S, _, rfl, hp, R.sub, dp, hz.1, small_le hz.2, fun ys p hy hp => good_newL R g hy hp⟩
    · cases e
  · cases e
end
end L2.DL

/-! D layer, part 7: built-in functions, subscripts, slices -/
namespace L2.DL
open PySem PySem.Spec PyProof.Rows L2

def intsOf : List D → Option (List Int)
  | [] => some []
  | .int i :: r => match intsOf r with
    | some ns => some (i :: ns)
    | none => none
  | _ => none
def blsOf : List D → Option (List Bool)
  | [] => some []
  | .bl i :: r => match blsOf r with
    | some ns => some (i :: ns)
    | none => none
  | _ => none
theorem den_ints {K : PySem.W.Frag} {S : Hp} : ∀ {ds : List D} {xs : List V} {ns : List Int}, DenL K S xs ds → intsOf ds = some ns → xs = ns.map V.int
  | [], _, _, .nil, e => by cases e; rfl
  | .int i :: r, _, _, .cons h hs, e => by
    cases h
    simp only [intsOf] at e
    split at e
    · rename_i ns q
      cases e
      rw [den_ints hs q]; rfl
    · cases e
  | .non :: _, _, _, _, e => nomatch e
  | .bl _ :: _, _, _, _, e => nomatch e
  | .str _ :: _, _, _, _, e => nomatch e
  | .tup _ :: _, _, _, _, e => nomatch e
  | .lst _ :: _, _, _, _, e => nomatch e
  | .dic _ :: _, _, _, _, e => nomatch e
  | .scr _ :: _, _, _, _, e => nomatch e
  | .fn _ :: _, _, _, _, e => nomatch e
theorem den_bls {K : PySem.W.Frag} {S : Hp} : ∀ {ds : List D} {xs : List V} {ns : List Bool}, DenL K S xs ds → blsOf ds = some ns → xs = ns.map V.bl
  | [], _, _, .nil, e => by cases e; rfl
  | .bl i :: r, _, _, .cons h hs, e => by
    cases h
    simp only [blsOf] at e
    split at e
    · rename_i ns q
      cases e
      rw [den_bls hs q]; rfl
    · cases e
  | .non :: _, _, _, _, e => nomatch e
  | .int _ :: _, _, _, _, e => nomatch e
  | .str _ :: _, _, _, _, e => nomatch e
  | .tup _ :: _, _, _, _, e => nomatch e
  | .lst _ :: _, _, _, _, e => nomatch e
  | .dic _ :: _, _, _, _, e => nomatch e
  | .scr _ :: _, _, _, _, e => nomatch e
  | .fn _ :: _, _, _, _, e => nomatch e

noncomputable def dLen : OpN
  | [.lst l] => some (.v (.int l.length))
  | [.tup l] => some (.v (.int l.length))
  | [.scr l] => some (.v (.int l.length))
  | [.str s] => if small s.length = true then some (.v (.int s.length)) else none
  | _ => none
noncomputable def dAbs : OpN
  | [.int i] => some (.v (.int (if cd (i < 0) = true then -i else i)))
  | _ => none
def dInt : OpN
  | [.int i] => some (.v (.int i))
  | [.bl b] => some (.v (.int (if b then 1 else 0)))
  | _ => none
def dSum : OpN
  | [.lst l] => match intsOf l with
    | some ns => some (.v (.int ns.sum))
    | none => none
  | _ => none
def maxI : List Int → Int
  | [] => 0
  | [x] => x
  | x :: r => max x (maxI r)
def minI : List Int → Int
  | [] => 0
  | [x] => x
  | x :: r => min x (minI r)
noncomputable def dMax : OpN
  | [.int i, .int j] => some (.v (.int (if cd (j > i) = true then j else i)))
  | [.lst l] => match intsOf l with
    | some (n :: ns) => some (.v (.int (maxI (n :: ns))))
    | _ => none
  | _ => none
noncomputable def dMin : OpN
  | [.int i, .int j] => some (.v (.int (if cd (j < i) = true then j else i)))
  | [.lst l] => match intsOf l with
    | some (n :: ns) => some (.v (.int (minI (n :: ns))))
    | _ => none
  | _ => none
def dAll : OpN
  | [.lst l] => match blsOf l with
    | some bs => some (.v (.bl (bs.all id)))
    | none => none
  | _ => none
def dAny : OpN
  | [.lst l] => match blsOf l with
    | some bs => some (.v (.bl (bs.any id)))
    | none => none
  | _ => none
def dList : OpN
  | [.lst l] => some (.f (.lst l))
  | [.tup l] => some (.f (.lst l))
  | _ => none
def dTuple : OpN
  | [.lst l] => some (.v (.tup l))
  | [.tup l] => some (.v (.tup l))
  | _ => none
theorem maxI_mem : ∀ (n : Int) (ns : List Int), maxI (n :: ns) ∈ n :: ns
  | n, [] => by simp [maxI]
  | n, m :: ns => by
    have ih := maxI_mem m ns
    show max n (maxI (m :: ns)) ∈ n :: m :: ns
    by_cases h : n ≤ maxI (m :: ns)
    · rw [Int.max_eq_right h]; exact List.mem_cons_of_mem _ ih
    · rw [Int.max_eq_left (by omega)]; exact List.mem_cons_self
theorem maxI_ge : ∀ (n : Int) (ns : List Int), ∀ y ∈ n :: ns, y ≤ maxI (n :: ns)
  | n, [], y, h => by simp at h; subst h; simp [maxI]
  | n, m :: ns, y, h => by
    show y ≤ max n (maxI (m :: ns))
    rcases List.mem_cons.mp h with rfl | h
    · exact Int.le_max_left _ _
    · exact Int.le_trans (maxI_ge m ns y h) (Int.le_max_right _ _)
theorem minI_mem : ∀ (n : Int) (ns : List Int), minI (n :: ns) ∈ n :: ns
  | n, [] => by simp [minI]
  | n, m :: ns => by
    have ih := minI_mem m ns
    show min n (minI (m :: ns)) ∈ n :: m :: ns
    by_cases h : minI (m :: ns) ≤ n
    · rw [Int.min_eq_right h]; exact List.mem_cons_of_mem _ ih
    · rw [Int.min_eq_left (by omega)]; exact List.mem_cons_self
theorem minI_le : ∀ (n : Int) (ns : List Int), ∀ y ∈ n :: ns, minI (n :: ns) ≤ y
  | n, [], y, h => by simp at h; subst h; simp [minI]
  | n, m :: ns, y, h => by
    show min n (minI (m :: ns)) ≤ y
    rcases List.mem_cons.mp h with rfl | h
    · exact Int.min_le_left _ _
    · exact Int.le_trans (Int.min_le_right _ _) (minI_le m ns y h)

section
variable {X : Cx}
theorem tops1 {K : PySem.W.Frag} {H S : Hp} {xs : List V} {d : D} (h : Tops K H S xs [d]) : ∃ x, xs = [x] ∧ Top K H S x d := by
  cases h with
  | cons t r => cases r; exact ⟨_, rfl, t⟩
theorem tops2 {K : PySem.W.Frag} {H S : Hp} {xs : List V} {d e : D} (h : Tops K H S xs [d, e]) : ∃ x y, xs = [x, y] ∧ Top K H S x d ∧ Top K H S y e := by
  cases h with
  | cons t r =>
    obtain ⟨y, rfl, q⟩ := tops1 r
    exact ⟨_, y, rfl, t, q⟩
theorem sn_len : SdN X (.builtin "len") dLen := by
  refine ⟨_, call_len, fun {W σ ρ H S xs ds q Q} R tx e g => ?_⟩
  unfold dLen at e
  split at e
  · cases e
    obtain ⟨x, rfl, t⟩ := tops1 tx
    obtain ⟨p, xs, rfl, hp, dp⟩ := top_lst R t
    exact ⟨_, _, rfl, .inl ⟨xs, SqL.of hp, dp.length.symm⟩, good_atom R g (.int _)⟩
  · cases e
    obtain ⟨x, rfl, t⟩ := tops1 tx
    obtain ⟨p, xs, rfl, hp, dp⟩ := top_tup t
    exact ⟨_, _, rfl, .inr ⟨xs, R.sub.seqT hp, dp.length.symm⟩, good_atom R g (.int _)⟩
  · cases e
    obtain ⟨x, rfl, t⟩ := tops1 tx
    obtain ⟨p, rfl, hp⟩ := top_scr t
    exact ⟨_, _, rfl, .inl ⟨_, R.sub.seqL hp, (List.length_map ..).symm⟩, good_atom R g (.int _)⟩
  · split at e
    · rename_i hz
      cases e
      obtain ⟨x, rfl, t⟩ := tops1 tx
      obtain rfl := top_str t
      exact ⟨_, _, rfl, ⟨small_le hz, rfl⟩, good_atom R g (.int _)⟩
    · cases e
  · cases e
theorem sn_abs : SdN X (.builtin "abs") dAbs := by
  refine ⟨_, call_abs, fun {W σ ρ H S xs ds q Q} R tx e g => ?_⟩
  unfold dAbs at e
  split at e
  · cases e
    obtain ⟨x, rfl, t⟩ := tops1 tx
    obtain rfl := top_int t
    exact ⟨_, rfl, good_atom R (by rw [cd_if] at g; exact g) (.int _)⟩
  · cases e
theorem sn_int : SdN X (.type "int") dInt := by
  refine ⟨_, call_int1, fun {W σ ρ H S xs ds q Q} R tx e g => ?_⟩
  unfold dInt at e
  split at e
  · cases e
    obtain ⟨x, rfl, t⟩ := tops1 tx
    obtain rfl := top_int t
    exact .inl ⟨_, rfl, good_atom R g (.int _)⟩
  · cases e
    obtain ⟨x, rfl, t⟩ := tops1 tx
    obtain rfl := top_bl t
    exact .inr ⟨_, rfl, good_atom R g (.int _)⟩
  · cases e
theorem sn_sum (hc : X.calm = true) : SdN X (.builtin "sum") dSum := by
  refine ⟨_, cr_sum hc, fun {W σ ρ H S xs ds q Q} R tx e g => ?_⟩
  unfold dSum at e
  split at e
  · split at e
    · rename_i ns q1
      cases e
      obtain ⟨x, rfl, t⟩ := tops1 tx
      obtain ⟨p, xs, rfl, hp, dp⟩ := top_lst R t
      have e1 := den_ints dp q1
      subst e1
      exact ⟨p, ns, rfl, SqL.of hp, good_atom R g (.int _)⟩
    · cases e
  · cases e
theorem sn_max (hc : X.calm = true) : SdN X (.builtin "max") dMax := by
  refine ⟨_, (call_max2 hc).or (cr_max hc), fun {W σ ρ H S xs ds q Q} R tx e g => ?_⟩
  unfold dMax at e
  split at e
  · cases e
    obtain ⟨x, y, rfl, t, t2⟩ := tops2 tx
    obtain rfl := top_int t
    obtain rfl := top_int t2
    exact .inl ⟨_, _, rfl, good_atom R (by rw [cd_if] at g; exact g) (.int _)⟩
  · split at e
    · rename_i n ns q1
      cases e
      obtain ⟨x, rfl, t⟩ := tops1 tx
      obtain ⟨p, xs, rfl, hp, dp⟩ := top_lst R t
      have e1 := den_ints dp q1
      subst e1
      refine .inr ⟨p, n :: ns, rfl, SqL.of hp, by simp, fun m h1 h2 => ?_⟩
      have em : m = maxI (n :: ns) := Int.le_antisymm (maxI_ge n ns m h1) (h2 _ (maxI_mem n ns))
      rw [em]
      exact good_atom R g (.int _)
    · cases e
  · cases e
theorem sn_min (hc : X.calm = true) : SdN X (.builtin "min") dMin := by
  refine ⟨_, (call_min2 hc).or (cr_min hc), fun {W σ ρ H S xs ds q Q} R tx e g => ?_⟩
  unfold dMin at e
  split at e
  · cases e
    obtain ⟨x, y, rfl, t, t2⟩ := tops2 tx
    obtain rfl := top_int t
    obtain rfl := top_int t2
    exact .inl ⟨_, _, rfl, good_atom R (by rw [cd_if] at g; exact g) (.int _)⟩
  · split at e
    · rename_i n ns q1
      cases e
      obtain ⟨x, rfl, t⟩ := tops1 tx
      obtain ⟨p, xs, rfl, hp, dp⟩ := top_lst R t
      have e1 := den_ints dp q1
      subst e1
      refine .inr ⟨p, n :: ns, rfl, SqL.of hp, by simp, fun m h1 h2 => ?_⟩
      have em : m = minI (n :: ns) := Int.le_antisymm (h2 _ (minI_mem n ns)) (minI_le n ns m h1)
      rw [em]
      exact good_atom R g (.int _)
    · cases e
  · cases e
theorem sn_all (hc : X.calm = true) : SdN X (.builtin "all") dAll := by
  refine ⟨_, cr_all hc, fun {W σ ρ H S xs ds q Q} R tx e g => ?_⟩
  unfold dAll at e
  split at e
  · split at e
    · rename_i ns q1
      cases e
      obtain ⟨x, rfl, t⟩ := tops1 tx
      obtain ⟨p, xs, rfl, hp, dp⟩ := top_lst R t
      have e1 := den_bls dp q1
      subst e1
      exact ⟨p, ns, rfl, SqL.of hp, good_atom R g (.bl _)⟩
    · cases e
  · cases e
theorem sn_any (hc : X.calm = true) : SdN X (.builtin "any") dAny := by
  refine ⟨_, cr_any hc, fun {W σ ρ H S xs ds q Q} R tx e g => ?_⟩
  unfold dAny at e
  split at e
  · split at e
    · rename_i ns q1
      cases e
      obtain ⟨x, rfl, t⟩ := tops1 tx
      obtain ⟨p, xs, rfl, hp, dp⟩ := top_lst R t
      have e1 := den_bls dp q1
      subst e1
      exact ⟨p, ns, rfl, SqL.of hp, good_atom R g (.bl _)⟩
    · cases e
  · cases e
theorem sn_list : SdN X (.type "list") dList := by
  refine ⟨_, call_list_of, fun {W σ ρ H S xs ds q Q} R tx e g => ?_⟩
  unfold dList at e
  split at e
  · cases e
    obtain ⟨x, rfl, t⟩ := tops1 tx
    obtain ⟨p, xs, rfl, hp, dp⟩ := top_lst R t
    exact ⟨p, xs, rfl, .inl (SqL.of hp), fun l hl => good_newL R g dp hl⟩
  · cases e
    obtain ⟨x, rfl, t⟩ := tops1 tx
    obtain ⟨p, xs, rfl, hp, dp⟩ := top_tup t
    exact ⟨p, xs, rfl, .inr (R.sub.seqT hp), fun l hl => good_newL R g dp hl⟩
  · cases e
theorem sn_tuple : SdN X (.type "tuple") dTuple := by
  refine ⟨_, call_tuple_of, fun {W σ ρ H S xs ds q Q} R tx e g => ?_⟩
  unfold dTuple at e
  split at e
  · cases e
    obtain ⟨x, rfl, t⟩ := tops1 tx
    obtain ⟨p, xs, rfl, hp, dp⟩ := top_lst R t
    exact ⟨p, xs, rfl, .inl ⟨SqL.of hp, fun l hl => good_newT R g dp hl⟩⟩
  · cases e
    obtain ⟨x, rfl, t⟩ := tops1 tx
    obtain ⟨p, xs, rfl, hp, dp⟩ := top_tup t
    exact ⟨p, xs, rfl, .inr ⟨R.sub.seqT hp, good_atom R g (.tup hp dp)⟩⟩
  · cases e

/-! ### subscripts -/
noncomputable def dIx : Op2
  | .lst l, .int i => (atI l i).map Rv.v
  | .tup l, .int i => (atI l i).map Rv.v
  | .scr l, .int i => (atI l i).map fun n => .v (.int n)
  | .str s, .int i => if small s.length = true then (atI s.cps.toList i).map fun c => .v (.str ⟨#[c]⟩) else none
  | _, _ => none
theorem atI_den {K : PySem.W.Frag} {S : Hp} {xs : List V} {ds : List D} {i : Int} {d : D} (h : DenL K S xs ds) (e : atI ds i = some d) : ∃ v, atI xs i = some v ∧ Den K S v d := by
  unfold atI at e ⊢
  rw [h.length]
  cases q : ixN ds.length i with
  | none => rw [q] at e; cases e
  | some j =>
    rw [q] at e
    exact h.get e
theorem map_some {α β : Type} {f : α → β} {o : Option α} {z : β} (h : o.map f = some z) : ∃ a, o = some a ∧ z = f a := by
  cases o with
  | none => cases h
  | some a => cases h; exact ⟨a, rfl, rfl⟩
theorem atI_map {α β : Type} {f : α → β} {l : List α} {i : Int} {a : α} (h : atI l i = some a) : atI (l.map f) i = some (f a) := by
  unfold atI at h ⊢
  rw [List.length_map]
  cases q : ixN l.length i with
  | none => rw [q] at h; cases h
  | some j =>
    rw [q] at h
    show (l.map f)[j]? = _
    rw [List.getElem?_map, show l[j]? = some a from h]; rfl
theorem si_ix : SdI X dIx := by
  refine ⟨_, ix_seq, fun {W σ ρ H S x y a b q Q} R tx ty e g => ?_⟩
  unfold dIx at e
  split at e
  · obtain ⟨d, e1, rfl⟩ := map_some e
    obtain ⟨p, xs, rfl, hp, dp⟩ := top_lst R tx
    obtain rfl := top_int ty
    obtain ⟨v, e2, e3⟩ := atI_den dp e1
    exact .inl ⟨p, xs, _, v, rfl, rfl, SqL.of hp, e2, good_atom R g e3⟩
  · obtain ⟨d, e1, rfl⟩ := map_some e
    obtain ⟨p, xs, rfl, hp, dp⟩ := top_tup tx
    obtain rfl := top_int ty
    obtain ⟨v, e2, e3⟩ := atI_den dp e1
    exact .inr (.inl ⟨p, xs, _, v, rfl, rfl, R.sub.seqT hp, e2, good_atom R g e3⟩)
  · obtain ⟨d, e1, rfl⟩ := map_some e
    obtain ⟨p, rfl, hp⟩ := top_scr tx
    obtain rfl := top_int ty
    exact .inl ⟨p, _, _, _, rfl, rfl, R.sub.seqL hp, atI_map e1, good_atom R g (.int _)⟩
  · split at e
    · rename_i hz
      obtain ⟨d, e1, rfl⟩ := map_some e
      obtain rfl := top_str tx
      obtain rfl := top_int ty
      exact .inr (.inr ⟨_, _, d, rfl, rfl, small_le hz, e1, good_atom R g (.str _)⟩)
    · cases e
  · cases e
end
end L2.DL

/-! D layer, part 8: slices, isinstance, starred items, methods that change a slot's object -/
namespace L2.DL
open PySem PySem.Spec PyProof.Rows L2

/-! ### slices -/
def cutL {α : Type} (xs : List α) (lo hi : Option Int) : List α := (xs.drop (HT.sIx xs.length 0 lo)).take (HT.sIx xs.length xs.length hi - HT.sIx xs.length 0 lo)
noncomputable def dSl : D → Option Int → Option Int → Option Rv
  | .lst l, lo, hi => some (.f (.lst (cutL l lo hi)))
  | .tup l, lo, hi => some (.v (.tup (cutL l lo hi)))
  | .str s, lo, hi => if small s.length = true then some (.v (.str (cutS s lo hi))) else none
  | _, _, _ => none
def pPart (f : Option (Sm Rv)) : Sm (Option Int) := match f with
  | none => fun ρ => .ok none ρ
  | some g => fun ρ => bnd (g ρ) fun r ρ1 => match deref r ρ1 with
    | some (.int i) => .ok (some i) ρ1
    | _ => .bad
noncomputable def sSl (f : Sm Rv) (lo hi : Sm (Option Int)) : Sm Rv := fun ρ => bnd (f ρ) fun r ρ1 => bnd (lo ρ1) fun l ρ2 => bnd (hi ρ2) fun h ρ3 => match deref r ρ3 with
  | some d => match dSl d l h with
    | some z => .ok z ρ3
    | none => .bad
  | none => .bad
def sRev (f : Sm Rv) : Sm Rv := fun ρ => bnd (f ρ) fun r ρ1 => match deref r ρ1 with
  | some (.lst l) => .ok (.f (.lst l.reverse)) ρ1
  | _ => .bad
section
variable {X : Cx} {a b e : Expr} {es : List Expr} {lo hi : Option Expr} {f g : Sm Rv} {as : Sm (List Rv)} {pos p : Pos} {W : WX}
def GoodP (K : PySem.W.Frag) (mg : MG) (W : WX) (σ : St) (ρ : DEnv) (H S : Hp) (o : Out (Option Int)) (Q : Option Int → Hp → Prop) : Prop := match o with
  | .ok b ρ' => ∀ H' S', Rep K H' S' σ ρ' → Stp σ ρ H S σ ρ' H' S' → Q b H'
  | .exc x ρ' => GoodX K mg W σ ρ H S x ρ'
  | .bad => False
def tP (K : PySem.W.Frag) (mg : MG) (W : WX) (f : Sm (Option Int)) : TO := fun σ H Q => ∃ S ρ, Rep K H S σ ρ ∧ GoodP K mg W σ ρ H S (f ρ) Q
structure PDP (X : Cx) (e : Option Expr) (f : Sm (Option Int)) : Prop where
  run : ∀ W, Takes X W → PO X e (tP X.K X.mg W f)
theorem POimp {t t' : TO} (h : PO X lo t) (hi' : ∀ σ H Q, t' σ H Q → t σ H Q) : PO X lo t' := ⟨fun pins s σ H Q I q => h.run pins s σ H Q I (hi' σ H Q q)⟩
theorem dp_none : PDP X none (pPart none) := ⟨fun W _ => POimp po_none fun σ H Q ⟨S, ρ, R, g⟩ => g H S R Stp.refl⟩
theorem dp_some (ha : PDE X e f) : PDP X (some e) (pPart (some f)) := by
  refine ⟨fun W tk => POimp (po_some (ha.run W tk)) fun σ H Q h => ?_⟩
  obtain ⟨S, ρ, R, g0⟩ := h
  refine tE_bnd (G := fun o => GoodP X.K X.mg W σ ρ H S o Q) S ρ R g0 (fun _ _ z => z) (fun z => z) fun r1 ρ1 _ g1 x H1 S1 R1 s1 t1 _ => ?_
  split at g1
  · rename_i i ei
    exact ⟨i, top_int (t1.top R1 ei), g1 H1 S1 R1 s1⟩
  · exact g1.elim
theorem tP_bnd {K : PySem.W.Frag} {mg : MG} {σ : St} {H : Hp} {α : Type} {f : Sm (Option Int)} {k : Option Int → DEnv → Out α} {P : Option Int → Hp → Prop} {G : Out α → Prop} (S : Hp) (ρ : DEnv) (R : Rep K H S σ ρ) (g : G (bnd (f ρ) k))
    (hx : ∀ y ρ1, G (.exc y ρ1) → GoodX K mg W σ ρ H S y ρ1) (hb : ¬ G .bad)
    (hok : ∀ b ρ1, f ρ = .ok b ρ1 → G (k b ρ1) → ∀ H1 S1, Rep K H1 S1 σ ρ1 → Stp σ ρ H S σ ρ1 H1 S1 → P b H1) : tP K mg W f σ H P := by
  refine ⟨S, ρ, R, ?_⟩
  cases e : f ρ with
  | ok r ρ1 => rw [e] at g; exact hok r ρ1 e g
  | exc y ρ1 => rw [e] at g; exact hx y ρ1 g
  | bad => rw [e] at g; exact hb g
theorem cut_den {K : PySem.W.Frag} {S : Hp} {xs : List V} {ds : List D} (h : DenL K S xs ds) (lo hi : Option Int) : DenL K S (cutV xs lo hi) (cutL ds lo hi) := by
  unfold cutV cutL
  rw [h.length]
  exact (h.drop _).take _
theorem cut_whole {α : Type} {xs : List α} {lo hi : Option Int} (h1 : HT.sIx xs.length 0 lo = 0) (h2 : HT.sIx xs.length xs.length hi = xs.length) : cutL xs lo hi = xs := by
  unfold cutL
  rw [h1, h2]
  simp
theorem sl_any : SlR X (fun x lo hi H Q => rSlL X.K x lo hi H Q ∨ rSlA X.K x lo hi H Q ∨ rSlS x lo hi H Q) := sl_list.or (sl_tupA.or sl_str)
theorem de_sl {k l : Sm (Option Int)} (ha : PDE X e f) (hl : PDP X lo k) (hh : PDP X hi l) : PDE X (.Subscript e (.Slice lo hi none p) pos) (sSl f k l) := by
  refine ⟨fun W tk => PEimp (pe_slice sl_any (ha.run W tk) (hl.run W tk) (hh.run W tk)) fun σ H Q h => ?_⟩
  obtain ⟨S, ρ, R, g0⟩ := h
  refine tE_bnd (G := fun o => GoodE X.K X.mg W σ ρ H S o Q) S ρ R g0 (fun _ _ z => z) (fun z => z) fun r1 ρ1 _ g1 x H1 S1 R1 s1 t1 _ => ?_
  have g1 := GoodE.adv s1 g1
  refine tP_bnd (G := fun o => GoodE X.K X.mg W σ ρ1 H1 S1 o Q) S1 ρ1 R1 g1 (fun _ _ z => z) (fun z => z) fun r2 ρ2 _ g2 H2 S2 R2 s2 => ?_
  have g2 := GoodE.adv s2 g2
  have t1 := t1.stay s2
  refine tP_bnd (G := fun o => GoodE X.K X.mg W σ ρ2 H2 S2 o Q) S2 ρ2 R2 g2 (fun _ _ z => z) (fun z => z) fun r3 ρ3 _ g3 H3 S3 R3 s3 => ?_
  have g3 := GoodE.adv s3 g3
  have t1 := t1.stay s3
  split at g3
  · rename_i d ed
    have T := t1.top R3 ed
    split at g3
    · rename_i z ez
      unfold dSl at ez
      split at ez
      · cases ez
        obtain ⟨p, xs, rfl, hp, dp⟩ := top_lst R3 T
        exact .inl ⟨p, xs, rfl, SqL.of hp, fun q hq => good_newL R3 g3 (cut_den dp _ _) hq⟩
      · cases ez
        obtain ⟨p, xs, rfl, hp, dp⟩ := top_tup T
        refine .inr (.inl ⟨p, xs, rfl, R3.sub.seqT hp, fun hw => ?_, fun _ q hq => good_newT R3 g3 (cut_den dp _ _) hq⟩)
        rw [dp.length] at hw
        rw [cut_whole hw.1 hw.2] at g3
        exact good_atom R3 g3 (.tup hp dp)
      · split at ez
        · rename_i hz
          cases ez
          obtain rfl := top_str T
          exact .inr (.inr ⟨_, rfl, small_le hz, good_atom R3 g3 (.str _)⟩)
        · cases ez
      · cases ez
    · exact g3.elim
  · exact g3.elim
theorem de_rev {k : Nat} {p1 p2 p3 : Pos} (ha : PDE X e f) : PDE X (.Subscript e (.Slice none none (some (.UnaryOp .USub (.Constant (.int 1) k p1) p2)) p3) pos) (sRev f) := by
  refine ⟨fun W tk => PEimp (pe_revL (ha.run W tk)) fun σ H Q h => ?_⟩
  obtain ⟨S, ρ, R, g0⟩ := h
  refine tE_bnd (G := fun o => GoodE X.K X.mg W σ ρ H S o Q) S ρ R g0 (fun _ _ z => z) (fun z => z) fun r1 ρ1 _ g1 x H1 S1 R1 s1 t1 _ => ?_
  have g1 := GoodE.adv s1 g1
  split at g1
  · rename_i l el
    obtain ⟨q, xs, rfl, hp, dp⟩ := top_lst R1 (t1.top R1 el)
    exact ⟨q, xs, rfl, SqL.of hp, fun q hq => good_newL R1 g1 dp.reverse hq⟩
  · exact g1.elim

/-! ### isinstance of a built-in class -/
def tyName : D → Option String
  | .non => some "NoneType"
  | .bl _ => some "bool"
  | .int _ => some "int"
  | .str _ => some "str"
  | .tup _ => some "tuple"
  | .lst _ => some "list"
  | .scr _ => some "list"
  | .dic _ => some "dict"
  | .fn _ => none
def isiN (n T : String) : Bool := n == T || (n == "bool" && T == "int")
def isiTys : List String := ["int", "bool", "str", "list", "tuple", "dict"]
theorem isi_tab : (["NoneType", "bool", "int", "str", "tuple", "list", "dict"].all fun n => isiTys.all fun T => kitB n T == some (isiN n T)) = true := by decide +kernel
def sIsi (T : String) (f : Sm Rv) : Sm Rv := fun ρ => bnd (f ρ) fun r ρ1 => match deref r ρ1 with
  | some d => match tyName d with
    | some n => .ok (.v (.bl (isiN n T))) ρ1
    | none => .bad
  | none => .bad
theorem tyx_of {σ : St} {ρ : DEnv} {H S : Hp} {x : V} {d : D} {n : String} (R : Rep X.K H S σ ρ) (t : Top X.K H S x d) (e : tyName d = some n) : TyX X.K H x (.type n) := by
  have lst : ∀ {a : Addr} {xs : List V}, SqL X.K H a xs → TyX X.K H (.ref a) (.type "list") := fun {a xs} h => by
    rcases h with (h | ⟨o, h⟩) | ⟨o, its, m, h1, h2, _⟩
    · exact .base (.lst h)
    · exact .base (.frz h)
    · exact .kList h1 h2
  have tup : ∀ {a : Addr} {xs : List V}, SqT X.K H a xs → TyX X.K H (.ref a) (.type "tuple") := fun {a xs} h => by
    rcases h with (h | ⟨o, h⟩) | ⟨o, its, m, h1, h2, _⟩
    · exact .base (.tup h)
    · exact .fTuple h
    · exact .kTuple h1 h2
  rcases t with q | ⟨a, e1, e2, e3⟩
  · cases q with
    | non => cases e; exact .base .non
    | bl b => cases e; exact .base (.bl b)
    | int b => cases e; exact .base (.int b)
    | str b => cases e; exact .base (.str b)
    | tup h _ => cases e; exact tup (R.sub.seqT h)
    | lst h _ => cases e; exact lst (SqL.of (R.sub _ _ h))
    | scr h => cases e; exact lst (R.sub.seqL h)
  · subst e1
    cases d with
    | lst ds =>
      obtain ⟨xs, e3, _⟩ := e3
      cases e
      exact lst (SqL.of e3)
    | _ => exact e3.elim
theorem tyName_mem {d : D} {n : String} (h : tyName d = some n) : n ∈ ["NoneType", "bool", "int", "str", "tuple", "list", "dict"] := by
  cases d <;> cases h <;> simp
theorem de_isi {T x y : Str} {U : String} {p1 p2 : Pos} (hg : Gl X "isinstance") (hm : X.mg "isinstance" = none) (hT : U ∈ isiTys) (hgT : Gl X y) (hmT : X.mg y = none) (hbT : bootBuiltins y = some (.type U)) (hn : y ≠ "__name__") (hd : (y == ("__debug__" : Str)) = false)
    (ha : PDE X a f) (hs : noStar a = true) : PDE X (.Call (.Name "isinstance" p1) [a, .Name y p2] [] pos) (sIsi U f) := by
  refine ⟨fun W tk => PEimp (pe_callB call_isi hg hm (by decide +kernel) (pa_cons (ha.run W tk) (pa_cons (pe_bltn (v := .ty U) hgT hmT hbT rfl hn hd) pa_nil) (star_cons hs)) (by decide) (by decide) (star_cons hs) (star_any (by simp [noStar]))) fun σ H Q h => ?_⟩
  obtain ⟨S, ρ, R, g0⟩ := h
  refine tE_bnd (G := fun o => GoodE X.K X.mg W σ ρ H S o Q) S ρ R g0 (fun _ _ z => z) (fun z => z) fun r1 ρ1 _ g1 x H1 S1 R1 s1 t1 _ => ?_
  have g1 := GoodE.adv s1 g1
  split at g1
  · rename_i d ed
    split at g1
    · rename_i n en
      have tab := List.all_eq_true.mp (List.all_eq_true.mp isi_tab n (tyName_mem en)) U hT
      exact ⟨x, .ty U, .type n, .type U, isiN n U, rfl, .ty U, tyx_of R1 (t1.top R1 ed) en, kit_ty (beq_iff_eq.mp tab), good_atom R1 g1 (.bl _)⟩
    · exact g1.elim
  · exact g1.elim

/-! ### starred items -/
def aStar (f : Sm Rv) (g : Sm (List Rv)) : Sm (List Rv) := fun ρ => bnd (f ρ) fun r ρ1 => match deref r ρ1 with
  | some (.lst l) => bnd (g ρ1) fun rs ρ2 => .ok (l.map Rv.v ++ rs) ρ2
  | some (.tup l) => bnd (g ρ1) fun rs ρ2 => .ok (l.map Rv.v ++ rs) ρ2
  | _ => .bad
end
end L2.DL

/-! D layer, part 9: what a loop or a comprehension walks -/
namespace L2.DL
open PySem PySem.Spec PyProof.Rows L2

section
variable {K : PySem.W.Frag} {mg : MG} {W : WX} {σ : St} {ρ ρ1 ρ' : DEnv} {H S H1 S1 : Hp}
/-- the slot whose object is walked stands as it stood -/
def SrcOk (σ σ2 : St) (ρ2 : DEnv) : Option (Nat × D) → Prop
  | none => True
  | some (i, d) => σ2[i]? = σ[i]? ∧ (ρ2[i]? = some (.own d) ∨ ρ2[i]? = some (.val d))
/-- the iterator J gives the items one by one -/
def ItOk (K : PySem.W.Frag) (S : Hp) (σ : St) (src : Option (Nat × D)) (items : List D) (J : It) : Prop :=
  ∀ H2 S2 σ2 ρ2, Rep K H2 S2 σ2 ρ2 → Sub S S2 → SrcOk σ σ2 ρ2 src →
    (∀ i d, items[i]? = some d → J.go i H2 ∧ ∀ x H3, J.yld i H2 x H3 → ∃ S3, Rep K H3 S3 σ2 ρ2 ∧ Stp σ2 ρ2 H2 S2 σ2 ρ2 H3 S3 ∧ Den K S3 x d) ∧ J.stop items.length H2
abbrev Src := List D × Option (Nat × D)
def GoodI (K : PySem.W.Frag) (mg : MG) (W : WX) (σ : St) (ρ : DEnv) (H S : Hp) (o : Out Src) (R : It → Hp → Prop) : Prop := match o with
  | .ok it ρ' => ∀ J H' S', Rep K H' S' σ ρ' → Stp σ ρ H S σ ρ' H' S' → ItOk K S' σ it.2 it.1 J → R J H'
  | .exc x ρ' => GoodX K mg W σ ρ H S x ρ'
  | .bad => False
def tI (K : PySem.W.Frag) (mg : MG) (W : WX) (f : Sm Src) : TI := fun σ H R => ∃ S ρ, Rep K H S σ ρ ∧ GoodI K mg W σ ρ H S (f ρ) R
theorem GoodI.adv {o : Out Src} {Q : It → Hp → Prop} (s : Stp σ ρ H S σ ρ1 H1 S1) (h : GoodI K mg W σ ρ H S o Q) : GoodI K mg W σ ρ1 H1 S1 o Q := by
  cases o with
  | ok r ρ' => exact fun J H' S' R t => h J H' S' R (s.trans t)
  | exc x ρ' => exact GoodX.adv s h
  | bad => exact h
theorem tI_bnd {α : Type} {f : Sm Src} {k : Src → DEnv → Out α} {P : It → Hp → Prop} {G : Out α → Prop} (S : Hp) (ρ : DEnv) (R : Rep K H S σ ρ) (g : G (bnd (f ρ) k))
    (hx : ∀ y ρ1, G (.exc y ρ1) → GoodX K mg W σ ρ H S y ρ1) (hb : ¬ G .bad)
    (hok : ∀ it ρ1, f ρ = .ok it ρ1 → G (k it ρ1) → ∀ J H1 S1, Rep K H1 S1 σ ρ1 → Stp σ ρ H S σ ρ1 H1 S1 → ItOk K S1 σ it.2 it.1 J → P J H1) : tI K mg W f σ H P := by
  refine ⟨S, ρ, R, ?_⟩
  cases e : f ρ with
  | ok r ρ1 => rw [e] at g; exact hok r ρ1 e g
  | exc y ρ1 => rw [e] at g; exact hx y ρ1 g
  | bad => rw [e] at g; exact hb g
/-- the list that a value at hand is, as it may be walked: a frozen one, or a slot's -/
def walkL (r : Rv) (ρ : DEnv) : Option (List D × Option (Nat × D) × DEnv) := match r with
  | .l i => match ρ[i]? with
    | some (.own (.lst l)) => some (l, some (i, .lst l), ρ)
    | some (.val (.lst l)) => some (l, none, ρ)
    | _ => none
  | .v (.lst l) => some (l, none, ρ)
  | .f (.lst l) => some (l, none, ρ)
  | _ => none
theorem list_src {S0 H0 : Hp} {ρ0 : DEnv} {x : V} {r : Rv} {l : List D} {src : Option (Nat × D)} (R : Rep K H S σ ρ) (s : Stp σ ρ0 H0 S0 σ ρ H S) (t : Tm K H S σ ρ x r) (n : Nw (New σ ρ0 H0) x r) (e : walkL r ρ = some (l, src, ρ')) :
    ∃ S' a, x = .ref a ∧ Rep K H S' σ ρ' ∧ Stp σ ρ0 H0 S0 σ ρ' H S' ∧
      (∃ xs, H a = some (.lst xs) ∧ DenL K S' xs l ∧ ∀ H2 S2 σ2 ρ2, Rep K H2 S2 σ2 ρ2 → Sub S' S2 → SrcOk σ σ2 ρ2 src → ∃ ys, H2 a = some (.lst ys) ∧ DenL K S2 ys l) := by
  cases r with
  | v d =>
    cases d with
    | lst l' =>
      cases e
      cases (show Den K S x (.lst l) from t) with
      | lst ha da => exact ⟨S, _, rfl, R, s, _, R.sub _ _ ha, da, fun H2 S2 σ2 ρ2 R2 h2 _ => ⟨_, R2.sub _ _ (h2 _ _ ha), da.mono h2⟩⟩
    | _ => cases e
  | f d =>
    cases d with
    | lst l' =>
      cases e
      obtain ⟨S', R', s', hd, hs, _⟩ := frz_ok (r := .f (.lst l)) (d := .lst l) R s (t.tf n) rfl
      cases hd with
      | lst ha da => exact ⟨S', _, rfl, R', s', _, R'.sub _ _ ha, da, fun H2 S2 σ2 ρ2 R2 h2 _ => ⟨_, R2.sub _ _ (h2 _ _ ha), da.mono h2⟩⟩
    | _ => cases e
  | l i =>
    simp only [walkL] at e
    split at e
    · rename_i l' q
      cases e
      obtain ⟨a, e1, e2, xs, e3, e4⟩ := R.own i _ q
      rw [show σ[i]? = some (some x) from t] at e1; cases e1
      refine ⟨S, a, rfl, R, s, xs, e3, e4, fun H2 S2 σ2 ρ2 R2 h2 hsrc => ?_⟩
      obtain ⟨f1, f2 | f2⟩ := hsrc
      · obtain ⟨b, g1, g2, ys, g3, g4⟩ := R2.own i _ f2
        rw [f1, show σ[i]? = some (some (V.ref a)) from t] at g1; cases g1
        exact ⟨ys, g3, g4⟩
      · obtain ⟨v, g1, g2⟩ := R2.val i _ f2
        rw [f1, show σ[i]? = some (some (V.ref a)) from t] at g1; cases g1
        cases g2 with
        | lst ha da => exact ⟨_, R2.sub _ _ ha, da⟩
    · rename_i l' q
      cases e
      obtain ⟨v, e1, e2⟩ := R.val i _ q
      rw [show σ[i]? = some (some x) from t] at e1; cases e1
      cases e2 with
      | lst ha da => exact ⟨S, _, rfl, R, s, _, R.sub _ _ ha, da, fun H2 S2 σ2 ρ2 R2 h2 _ => ⟨_, R2.sub _ _ (h2 _ _ ha), da.mono h2⟩⟩
    · cases e
/-- a list's items one by one -/
theorem itok_list {a : Addr} {l : List D} {src : Option (Nat × D)} (h : ∀ H2 S2 σ2 ρ2, Rep K H2 S2 σ2 ρ2 → Sub S S2 → SrcOk σ σ2 ρ2 src → ∃ ys, H2 a = some (.lst ys) ∧ DenL K S2 ys l) : ItOk K S σ src l (Itl K a) := by
  intro H2 S2 σ2 ρ2 R2 h2 hs
  obtain ⟨ys, e1, e2⟩ := h H2 S2 σ2 ρ2 R2 h2 hs
  refine ⟨fun i d hd => ?_, ys, SqL.of e1, by rw [e2.length]; exact Nat.le_refl _⟩
  obtain ⟨v, f1, f2⟩ := e2.get hd
  refine ⟨⟨ys, v, SqL.of e1, f1⟩, fun x H3 hy => ?_⟩
  obtain ⟨rfl, g⟩ := hy
  have e := g ys (SqL.of e1)
  rw [f1] at e; cases e
  exact ⟨S2, R2, Stp.refl, f2⟩
theorem itok_tup {a : Addr} {xs : List V} {l : List D} (h1 : SqT K S a xs) (h2 : DenL K S xs l) : ItOk K S σ none l (Itt K a) := by
  intro H2 S2 σ2 ρ2 R2 h3 _
  have q := R2.sub.seqT (h3.seqT h1)
  have hd2 := h2.mono h3
  refine ⟨fun i d hd => ?_, xs, q, by rw [h2.length]; exact Nat.le_refl _⟩
  obtain ⟨v, f1, f2⟩ := hd2.get hd
  refine ⟨⟨xs, v, q, f1⟩, fun x H3 hy => ?_⟩
  obtain ⟨rfl, g⟩ := hy
  have e := g xs q
  rw [f1] at e; cases e
  exact ⟨S2, R2, Stp.refl, f2⟩
theorem itok_scr {a : Addr} {ns : List Int} (h1 : SqL K S a (ns.map V.int)) : ItOk K S σ none (ns.map D.int) (Itl K a) := by
  intro H2 S2 σ2 ρ2 R2 h3 _
  have q := R2.sub.seqL (h3.seqL h1)
  refine ⟨fun i d hd => ?_, _, q, by rw [List.length_map, List.length_map]; exact Nat.le_refl _⟩
  rw [List.getElem?_map] at hd
  cases hn : ns[i]? with
  | none => rw [hn] at hd; cases hd
  | some n =>
    rw [hn] at hd; cases hd
    have f1 : (ns.map V.int)[i]? = some (.int n) := by rw [List.getElem?_map, hn]; rfl
    refine ⟨⟨_, _, q, f1⟩, fun x H3 hy => ?_⟩
    obtain ⟨rfl, g⟩ := hy
    have e := g _ q
    rw [f1] at e; cases e
    exact ⟨S2, R2, Stp.refl, .int n⟩
def charsOf (z : Str) : List D := z.cps.toList.map fun c => .str ⟨#[c]⟩
theorem itok_str {z : Str} : ItOk K S σ none (charsOf z) (Its z) := by
  intro H2 S2 σ2 ρ2 R2 h3 _
  refine ⟨fun i d hd => ?_, by show z.cps.size ≤ _; unfold charsOf; rw [List.length_map, Array.length_toList]; exact Nat.le_refl _⟩
  unfold charsOf at hd
  rw [List.getElem?_map, Array.getElem?_toList] at hd
  cases hn : z.cps[i]? with
  | none => rw [hn] at hd; cases hd
  | some n =>
    rw [hn] at hd; cases hd
    refine ⟨(Array.getElem?_eq_some_iff.mp hn).1, fun x H3 hy => ?_⟩
    obtain ⟨rfl, c, g, rfl⟩ := hy
    rw [hn] at g; cases g
    exact ⟨S2, R2, Stp.refl, .str _⟩
def upFrom (lo : Int) : Nat → List D
  | 0 => []
  | n + 1 => .int lo :: upFrom (lo + 1) n
theorem upFrom_len : ∀ {lo : Int} {n : Nat}, (upFrom lo n).length = n
  | _, 0 => rfl
  | lo, n + 1 => congrArg (· + 1) (upFrom_len (lo := lo + 1) (n := n))
theorem upFrom_get : ∀ {lo : Int} {n i : Nat}, i < n → (upFrom lo n)[i]? = some (.int (lo + i))
  | _, 0, _, h => absurd h (Nat.not_lt_zero _)
  | lo, n + 1, 0, _ => by simp [upFrom]
  | lo, n + 1, i + 1, h => by
    show (upFrom (lo + 1) n)[i]? = _
    rw [upFrom_get (Nat.lt_of_succ_lt_succ h)]
    congr 2
    omega
theorem itok_range {lo : Int} {n : Nat} : ItOk K S σ none (upFrom lo n) (Itr lo n) := by
  intro H2 S2 σ2 ρ2 R2 h3 _
  refine ⟨fun i d hd => ?_, by show n ≤ _; rw [upFrom_len]; exact Nat.le_refl _⟩
  have hi : i < n := by
    have := (List.getElem?_eq_some_iff.mp hd).1
    rw [upFrom_len] at this; exact this
  rw [upFrom_get hi] at hd; cases hd
  refine ⟨hi, fun x H3 hy => ?_⟩
  obtain ⟨rfl, rfl⟩ := hy
  exact ⟨S2, R2, Stp.refl, .int _⟩
/-- numbered items, each in a new pair -/
def enumD (k : Nat) : List D → List D
  | [] => []
  | d :: ds => .tup [.int k, d] :: enumD (k + 1) ds
theorem enumD_len : ∀ {l : List D} {k : Nat}, (enumD k l).length = l.length
  | [], _ => rfl
  | d :: ds, k => congrArg (· + 1) (enumD_len (l := ds) (k := k + 1))
theorem enumD_get : ∀ {l : List D} {k i : Nat} {d : D}, (enumD k l)[i]? = some d → ∃ e, l[i]? = some e ∧ d = .tup [.int ((k + i : Nat) : Int), e]
  | [], _, i, _, h => by simp [enumD] at h
  | e :: ds, k, 0, d, h => by
    simp [enumD] at h
    exact ⟨e, by simp, h.symm⟩
  | e :: ds, k, i + 1, d, h => by
    obtain ⟨e', h1, h2⟩ := enumD_get (l := ds) (k := k + 1) (i := i) (d := d) (by simpa [enumD] using h)
    exact ⟨e', by simpa using h1, by rw [h2]; congr 4; omega⟩
theorem itok_enum {a : Addr} {l : List D} {src : Option (Nat × D)} (h : ∀ H2 S2 σ2 ρ2, Rep K H2 S2 σ2 ρ2 → Sub S S2 → SrcOk σ σ2 ρ2 src → ∃ ys, H2 a = some (.lst ys) ∧ DenL K S2 ys l) : ItOk K S σ src (enumD 0 l) (Ite K a) := by
  intro H2 S2 σ2 ρ2 R2 h2 hs
  obtain ⟨ys, e1, e2⟩ := h H2 S2 σ2 ρ2 R2 h2 hs
  refine ⟨fun i d hd => ?_, ys, SqL.of e1, by rw [e2.length, enumD_len]; exact Nat.le_refl _⟩
  obtain ⟨e, hd', rfl⟩ := enumD_get hd
  obtain ⟨v, f1, f2⟩ := e2.get hd'
  refine ⟨⟨ys, v, SqL.of e1, f1⟩, fun x H3 hy => ?_⟩
  obtain ⟨T, y, rfl, hT, rfl, g⟩ := hy
  have e := g ys (SqL.of e1)
  rw [f1] at e; cases e
  refine ⟨upd S2 T (.tup [.int (i : Nat), v]), R2.allocS hT, Stp.allocS R2 hT, .tup (.inl (.inl upd_same)) (.cons ?_ (.cons (f2.mono (sub_upd (R2.freeS hT))) .nil))⟩
  rw [show (0 + i : Nat) = i from Nat.zero_add i]
  exact .int _
/-- pairs of two lists, as far as both go -/
def zipD : List D → List D → List D
  | x :: xs, y :: ys => .tup [x, y] :: zipD xs ys
  | _, _ => []
theorem zipD_get : ∀ {l m : List D} {i : Nat} {d : D}, (zipD l m)[i]? = some d → ∃ e f, l[i]? = some e ∧ m[i]? = some f ∧ d = .tup [e, f]
  | [], _, i, _, h => by simp [zipD] at h
  | _ :: _, [], i, _, h => by simp [zipD] at h
  | e :: ds, f :: es, 0, d, h => by
    simp [zipD] at h
    exact ⟨e, f, by simp, by simp, h.symm⟩
  | e :: ds, f :: es, i + 1, d, h => by
    obtain ⟨e', f', h1, h2, h3⟩ := zipD_get (l := ds) (m := es) (i := i) (d := d) (by simpa [zipD] using h)
    exact ⟨e', f', by simpa using h1, by simpa using h2, h3⟩
theorem zipD_len : ∀ {l m : List D}, (zipD l m).length = min l.length m.length
  | [], _ => by simp [zipD]
  | _ :: _, [] => by simp [zipD]
  | e :: ds, f :: es => by simp only [zipD, List.length_cons, zipD_len (l := ds) (m := es)]; omega
def HasL (K : PySem.W.Frag) (S : Hp) (σ : St) (src : Option (Nat × D)) (a : Addr) (l : List D) : Prop :=
  ∀ H2 S2 σ2 ρ2, Rep K H2 S2 σ2 ρ2 → Sub S S2 → SrcOk σ σ2 ρ2 src → ∃ ys, H2 a = some (.lst ys) ∧ DenL K S2 ys l
theorem itok_zip {a b : Addr} {l m : List D} (h : HasL K S σ none a l) (h' : HasL K S σ none b m) : ItOk K S σ none (zipD l m) (Itz K a b) := by
  intro H2 S2 σ2 ρ2 R2 h2 hs
  obtain ⟨ys, e1, e2⟩ := h H2 S2 σ2 ρ2 R2 h2 hs
  obtain ⟨zs, e3, e4⟩ := h' H2 S2 σ2 ρ2 R2 h2 hs
  refine ⟨fun i d hd => ?_, ys, zs, SqL.of e1, SqL.of e3, by rw [e2.length, e4.length, zipD_len]; omega⟩
  obtain ⟨e, f, hd1, hd2, rfl⟩ := zipD_get hd
  obtain ⟨v, f1, f2⟩ := e2.get hd1
  obtain ⟨w, f3, f4⟩ := e4.get hd2
  refine ⟨⟨ys, zs, v, w, SqL.of e1, SqL.of e3, f1, f3⟩, fun x H3 hy => ?_⟩
  obtain ⟨T, y, z, rfl, hT, rfl, g, g'⟩ := hy
  have e := g ys (SqL.of e1)
  rw [f1] at e; cases e
  have e := g' zs (SqL.of e3)
  rw [f3] at e; cases e
  have hm := sub_upd (o := HO.tup [v, w]) (R2.freeS hT)
  exact ⟨upd S2 T (.tup [v, w]), R2.allocS hT, Stp.allocS R2 hT, .tup (.inl (.inl upd_same)) (.cons (f2.mono hm) (.cons (f4.mono hm) .nil))⟩
end

/-! ### meanings -/
def walk (r : Rv) (ρ : DEnv) : Option (List D × Option (Nat × D) × DEnv) := match r with
  | .v (.tup l) => some (l, none, ρ)
  | .v (.scr ns) => some (ns.map D.int, none, ρ)
  | .v (.str z) => some (charsOf z, none, ρ)
  | r => walkL r ρ
def iAny (f : Sm Rv) : Sm Src := fun ρ => bnd (f ρ) fun r ρ1 => match walk r ρ1 with
  | some (l, src, ρ2) => .ok (l, src) ρ2
  | none => .bad
noncomputable def rngOk (i : Int) : Bool := cd (-(2 ^ 62) ≤ i ∧ i < 2 ^ 62)
noncomputable def iRange1 (f : Sm Rv) : Sm Src := fun ρ => bnd (f ρ) fun r ρ1 => match deref r ρ1 with
  | some (.int j) => if rngOk j = true then .ok (upFrom 0 j.toNat, none) ρ1 else .bad
  | _ => .bad
noncomputable def iRange2 (f g : Sm Rv) : Sm Src := fun ρ => bnd (f ρ) fun r ρ1 => bnd (g ρ1) fun q ρ2 => match deref r ρ2, deref q ρ2 with
  | some (.int i), some (.int j) => if (rngOk i && rngOk j) = true then .ok (upFrom i (j - i).toNat, none) ρ2 else .bad
  | _, _ => .bad
def iEnumD (f : Sm Rv) : Sm Src := fun ρ => bnd (f ρ) fun r ρ1 => match walkL r ρ1 with
  | some (l, src, ρ2) => .ok (enumD 0 l, src) ρ2
  | none => .bad
/-- zip of two lists: both frozen -/
def iZipD (f g : Sm Rv) : Sm Src := fun ρ => bnd (f ρ) fun r ρ1 => bnd (g ρ1) fun q ρ2 => match frzs [r, q] ρ2 with
  | some ([.lst l, .lst m], ρ3) => .ok (zipD l m, none) ρ3
  | _ => .bad
structure PDI (X : Cx) (tg iter : Expr) (f : Sm Src) : Prop where
  run : ∀ W, Takes X W → PI X tg iter (tI X.K X.mg W f)
section
variable {X : Cx} {tg e e2 : Expr} {f g : Sm Rv} {pos p : Pos}
theorem PIimp {iter : Expr} {t t' : TI} (h : PI X tg iter t) (hi : ∀ σ H R, t' σ H R → t σ H R) : PI X tg iter t' :=
  ⟨fun pins s σ H R I q => h.run pins s σ H R I (hi σ H R q)⟩
theorem pi_any {tl : TE} (hl : PE X e tl) : PI X tg e (fun σ H R => tl σ H fun x H1 => (∃ a xs, x = V.ref a ∧ SqL X.K H1 a xs ∧ R (Itl X.K a) H1) ∨ (∃ a xs, x = V.ref a ∧ SqT X.K H1 a xs ∧ R (Itt X.K a) H1) ∨ ∃ z, x = V.str z ∧ R (Its z) H1) := by
  refine ⟨fun pins s σ H R I h => ?_⟩
  refine thn (hl.run pins s σ H _ I h) fun v s1 ⟨x, H1, I1, r1, q1⟩ => ?_
  rcases q1 with ⟨a, xs, rfl, hq, q⟩ | ⟨a, xs, rfl, hq, q⟩ | ⟨z, rfl, q⟩
  · cases r1
    obtain ⟨its, rv, pl, hz⟩ := I1.list hq
    exact wpAny_pyIter_list pl.isList (pi_one (tk := s1.toks) I1 _ (turn_list a _) ⟨_, Heap.get?_push_size _ rfl, rfl, rfl⟩ q)
  · cases r1
    obtain ⟨its, rv, pl, hz⟩ := I1.tuple hq
    exact wpAny_pyIter_tuple (show s1.heap.IsTuple a its.toArray from pl) (pi_one (tk := s1.toks) I1 _ (turn_tuple a _) ⟨_, Heap.get?_push_size _ rfl, rfl, rfl⟩ q)
  · obtain ⟨t, rfl⟩ := r1
    cases ha : z.cps.all (· < 128)
    · exact wpAny_pyIter_wide ha (pi_one (tk := s1.toks) I1 _ (turn_str _ z t "str_iterator" (.inr rfl)) ⟨_, Heap.get?_push_size _ rfl, rfl, rfl⟩ q)
    · exact wpAny_pyIter_ascii ha (pi_one (tk := s1.toks) I1 _ (turn_str _ z t "str_ascii_iterator" (.inl rfl)) ⟨_, Heap.get?_push_size _ rfl, rfl, rfl⟩ q)
theorem di_any (ha : PDE X e f) : PDI X tg e (iAny f) := by
  refine ⟨fun W tk => PIimp (pi_any (ha.run W tk)) fun σ H R h => ?_⟩
  obtain ⟨S, ρ, R0, g0⟩ := h
  refine tE_bnd (G := fun o => GoodI X.K X.mg W σ ρ H S o R) S ρ R0 g0 (fun _ _ z => z) (fun z => z) fun r1 ρ1 _ g1 x H1 S1 R1 s1 t1 n1 => ?_
  split at g1
  · rename_i l src ρ2 ew
    have viaL : walkL r1 ρ1 = some (l, src, ρ2) → ∃ a xs, x = V.ref a ∧ SqL X.K H1 a xs ∧ R (Itl X.K a) H1 := fun ew => by
      obtain ⟨S', a, rfl, R', s', xs, hx, dx, hl⟩ := list_src R1 s1 t1 n1 ew
      exact ⟨a, xs, rfl, SqL.of hx, g1 _ H1 S' R' s' (itok_list hl)⟩
    unfold walk at ew
    split at ew
    · cases ew
      cases (show Den X.K S1 x (.tup l) from t1) with
      | tup h d => exact .inr (.inl ⟨_, _, rfl, R1.sub.seqT h, g1 _ H1 S1 R1 s1 (itok_tup h d)⟩)
    · cases ew
      cases (show Den X.K S1 x (.scr _) from t1) with
      | scr h => exact .inl ⟨_, _, rfl, R1.sub.seqL h, g1 _ H1 S1 R1 s1 (itok_scr h)⟩
    · cases ew
      cases (show Den X.K S1 x (.str _) from t1) with
      | str z => exact .inr (.inr ⟨_, rfl, g1 _ H1 S1 R1 s1 itok_str⟩)
    · exact .inl (viaL ew)
  · exact g1.elim
theorem rngOk_of {i : Int} (h : rngOk i = true) : -(2 ^ 62) ≤ i ∧ i < 2 ^ 62 := by
  exact cd_iff.mp h
theorem di_range1 (hg : Gl X "range") (hm : X.mg "range" = none) (ha : PDE X e f) (hs : noStar e = true) : PDI X tg (.Call (.Name "range" p) [e] [] pos) (iRange1 f) := by
  refine ⟨fun W tk => PIimp (pi_range1 hg hm (pa_cons (ha.run W tk) pa_nil (star_cons hs)) (star_cons hs)) fun σ H R h => ?_⟩
  obtain ⟨S, ρ, R0, g0⟩ := h
  refine tE_bnd (G := fun o => GoodI X.K X.mg W σ ρ H S o R) S ρ R0 g0 (fun _ _ z => z) (fun z => z) fun r1 ρ1 _ g1 x H1 S1 R1 s1 t1 n1 => ?_
  split at g1
  · rename_i j ej
    split at g1
    · rename_i hz
      obtain ⟨h1, h2⟩ := rngOk_of hz
      exact ⟨j, by rw [top_int (t1.top R1 ej)], h1, h2, g1 _ H1 S1 R1 s1 itok_range⟩
    · exact g1.elim
  · exact g1.elim
theorem di_range2 (hg : Gl X "range") (hm : X.mg "range" = none) (ha : PDE X e f) (hb : PDE X e2 g) (hs : noStar e = true) (hs2 : noStar e2 = true) : PDI X tg (.Call (.Name "range" p) [e, e2] [] pos) (iRange2 f g) := by
  have st2 : starEach [e2] X.env = [(false, eval e2 X.env)] := star_cons hs2
  refine ⟨fun W tk => PIimp (pi_range2 hg hm (pa_cons (ha.run W tk) (pa_cons (hb.run W tk) pa_nil (star_cons hs2)) (star_cons hs)) (by rw [star_cons hs, st2]) st2) fun σ H R h => ?_⟩
  obtain ⟨S, ρ, R0, g0⟩ := h
  refine tE_bnd (G := fun o => GoodI X.K X.mg W σ ρ H S o R) S ρ R0 g0 (fun _ _ z => z) (fun z => z) fun r1 ρ1 _ g1 x H1 S1 R1 s1 t1 n1 => ?_
  have g1 := GoodI.adv s1 g1
  refine tE_bnd (G := fun o => GoodI X.K X.mg W σ ρ1 H1 S1 o R) S1 ρ1 R1 g1 (fun _ _ z => z) (fun z => z) fun r2 ρ2 _ g2 y H2 S2 R2 s2 t2 n2 => ?_
  have t1 := t1.stay s2
  split at g2
  · rename_i i j ei ej
    split at g2
    · rename_i hz
      rw [Bool.and_eq_true] at hz
      obtain ⟨h1, h2⟩ := rngOk_of hz.1
      obtain ⟨h3, h4⟩ := rngOk_of hz.2
      exact ⟨i, j, by rw [top_int (t1.top R2 ei), top_int (t2.top R2 ej)], ⟨h1, h2, h3, h4⟩, g2 _ H2 S2 R2 s2 itok_range⟩
    · exact g2.elim
  · exact g2.elim
theorem di_enum {elts : List Expr} {kk : Nat} {tpos : Pos} (hg : Gl X "enumerate") (hm : X.mg "enumerate" = none) (ha : PDE X e f) (hs : noStar e = true) : PDI X (.Tuple elts kk tpos) (.Call (.Name "enumerate" p) [e] [] pos) (iEnumD f) := by
  refine ⟨fun W tk => PIimp (pi_enum hg hm (pa_cons (ha.run W tk) pa_nil (star_cons hs)) (star_cons hs)) fun σ H R h => ?_⟩
  obtain ⟨S, ρ, R0, g0⟩ := h
  refine tE_bnd (G := fun o => GoodI X.K X.mg W σ ρ H S o R) S ρ R0 g0 (fun _ _ z => z) (fun z => z) fun r1 ρ1 _ g1 x H1 S1 R1 s1 t1 n1 => ?_
  split at g1
  · rename_i l src ρ2 ew
    obtain ⟨S', a, rfl, R', s', xs, hx, dx, hl⟩ := list_src R1 s1 t1 n1 ew
    exact ⟨a, xs, rfl, SqL.of hx, g1 _ H1 S' R' s' (itok_enum hl)⟩
  · exact g1.elim
theorem frz_hasL {K : PySem.W.Frag} {S : Hp} {σ : St} {x : V} {l : List D} (h : Den K S x (.lst l)) : ∃ a xs, x = .ref a ∧ S a = some (.lst xs) ∧ HasL K S σ none a l := by
  cases h with
  | lst ha da => exact ⟨_, _, rfl, ha, fun H2 S2 σ2 ρ2 R2 h2 _ => ⟨_, R2.sub _ _ (h2 _ _ ha), da.mono h2⟩⟩
theorem di_zip {elts : List Expr} {kk : Nat} {tpos : Pos} (hg : Gl X "zip") (hm : X.mg "zip" = none) (ha : PDE X e f) (hb : PDE X e2 g) (hs : noStar e = true) (hs2 : noStar e2 = true) :
    PDI X (.Tuple elts kk tpos) (.Call (.Name "zip" p) [e, e2] [] pos) (iZipD f g) := by
  refine ⟨fun W tk => PIimp (pi_zip hg hm (pa_cons (ha.run W tk) (pa_cons (hb.run W tk) pa_nil (star_cons hs2)) (star_cons hs)) (star_cons hs) (star_any (by simp [hs2]))) fun σ H R h => ?_⟩
  obtain ⟨S, ρ, R0, g0⟩ := h
  refine tE_bnd (G := fun o => GoodI X.K X.mg W σ ρ H S o R) S ρ R0 g0 (fun _ _ z => z) (fun z => z) fun r1 ρ1 _ g1 x H1 S1 R1 s1 t1 n1 => ?_
  refine tE_bnd (G := fun o => GoodI X.K X.mg W σ ρ H S o R) S1 ρ1 R1 g1 (fun _ _ z => GoodX.adv s1 z) (fun z => z) fun r2 ρ2 _ g2 y H2 S2 R2 s2 t2 n2 => ?_
  have t1 := t1.stay s2
  split at g2
  · rename_i l m ρ3 ez
    have tms : Tms X.K H2 S2 σ ρ2 (New σ ρ H) [x, y] [r1, r2] := ⟨t1, n1, t2, nw_adv s1 n2, trivial⟩
    obtain ⟨S', R', s', hd, _, _⟩ := frzs_ok R2 (s1.trans s2) tms.tfs ez
    cases hd with
    | cons h1 hd =>
      cases hd with
      | cons h2 hd =>
        cases hd
        obtain ⟨a, xs, rfl, e1, i1⟩ := frz_hasL (σ := σ) h1
        obtain ⟨b, ys, rfl, e2, i2⟩ := frz_hasL (σ := σ) h2
        exact ⟨a, b, xs, ys, rfl, SqL.of (R'.sub _ _ e1), SqL.of (R'.sub _ _ e2), g2 _ H2 S' R' s' (itok_zip i1 i2)⟩
  · exact g2.elim
end
end L2.DL

/-! D layer, part 10: targets, list comprehensions -/
namespace L2.DL
open PySem PySem.Spec PyProof.Rows L2

/-! ### data that is the same -/
noncomputable def D.same (a b : D) : Bool := cd (a = b)
theorem same_eq {a b : D} (h : D.same a b = true) : a = b := cd_iff.mp h
theorem same_refl {a : D} : D.same a a = true := cd_true rfl

/-! ### targets -/
abbrev Gd := D → DEnv → Out Unit
def gN (i : Nat) : Gd := fun d ρ => .ok () (ρ.set i (.val d))
def gGo : List Gd → List D → DEnv → Out Unit
  | [], [], ρ => .ok () ρ
  | g :: gs, d :: ds, ρ => bnd (g d ρ) fun _ ρ1 => gGo gs ds ρ1
  | _, _, _ => .bad
def gT (gs : List Gd) : Gd := fun d ρ => match d with
  | .tup l => if l.length = gs.length then gGo gs l ρ else .bad
  | _ => .bad
section
variable {K : PySem.W.Frag} {mg : MG} {W : WX} {σ : St} {ρ ρ1 ρ' : DEnv} {H S H1 S1 : Hp}
def GoodG (K : PySem.W.Frag) (mg : MG) (W : WX) (fx : Nat → Bool) (σ : St) (ρ : DEnv) (H S : Hp) (o : Out Unit) (Q : St → Hp → Prop) : Prop := match o with
  | .ok _ ρ' => ∀ σ' H' S', Rep K H' S' σ' ρ' → Stp σ ρ H S σ' ρ' H' S' → (∀ i, fx i = true → σ'[i]? = σ[i]?) → σ'.length = σ.length → Q σ' H'
  | .exc x ρ' => ∀ c d σ' H' S', Rep K H' S' σ' ρ' → Stp σ ρ H S σ' ρ' H' S' → (∀ i, fx i = true → σ'[i]? = σ[i]?) → IsX mg H' x c d → W c d σ' H'
  | .bad => False
def tG (K : PySem.W.Frag) (mg : MG) (W : WX) (fx : Nat → Bool) (g : Gd) : TG := fun x σ H Q => ∃ S ρ d, Rep K H S σ ρ ∧ Den K S x d ∧ GoodG K mg W fx σ ρ H S (g d ρ) Q
def tGs (K : PySem.W.Frag) (mg : MG) (W : WX) (fx : Nat → Bool) (gs : List Gd) : TGs := fun xs σ H Q => ∃ S ρ ds, Rep K H S σ ρ ∧ DenL K S xs ds ∧ GoodG K mg W fx σ ρ H S (gGo gs ds ρ) Q
theorem GoodG.adv {fx : Nat → Bool} {σ1 : St} {o : Out Unit} {Q : St → Hp → Prop} (s : Stp σ ρ H S σ1 ρ1 H1 S1) (hf : ∀ i, fx i = true → σ1[i]? = σ[i]?) (hl : σ1.length = σ.length) (h : GoodG K mg W fx σ ρ H S o Q) : GoodG K mg W fx σ1 ρ1 H1 S1 o Q := by
  cases o with
  | ok r ρ' => exact fun σ' H' S' R t f l => h σ' H' S' R (s.trans t) (fun i e => (f i e).trans (hf i e)) (l.trans hl)
  | exc x ρ' => exact fun c d σ' H' S' R t f i => h c d σ' H' S' R (s.trans t) (fun i e => (f i e).trans (hf i e)) i
  | bad => exact h
theorem own_setv {i : Nat} {c : Cell} {x : Option V} {b : Addr} (hc : ∀ d, c ≠ .own d) (h : Own (σ.set i x) (ρ.set i c) b) : Own σ ρ b := by
  obtain ⟨j, e, h1, h2⟩ := h
  by_cases q : i = j
  · subst q
    by_cases z : i < ρ.length
    · rw [List.getElem?_set_self z] at h1; cases h1; exact absurd rfl (hc e)
    · rw [List.getElem?_eq_none (by simpa using z)] at h1; cases h1
  · rw [List.getElem?_set_ne q] at h1 h2
    exact ⟨j, e, h1, h2⟩
/-- a slot takes data -/
theorem Rep.setVal {i : Nat} {x : V} {d : D} (R : Rep K H S σ ρ) (h : Den K S x d) : Rep K H S (σ.set i (some x)) (ρ.set i (.val d)) where
  sub := R.sub
  len := by rw [List.length_set, List.length_set]; exact R.len
  val := fun j e q => by
    by_cases z : i = j
    · subst z
      by_cases hi : i < ρ.length
      · rw [List.getElem?_set_self hi] at q; cases q
        exact ⟨x, List.getElem?_set_self (by rw [← R.len]; exact hi), h⟩
      · rw [List.getElem?_eq_none (by simpa using hi)] at q; cases q
    · rw [List.getElem?_set_ne z] at q ⊢
      exact R.val j e q
  own := fun j e q => by
    by_cases z : i = j
    · subst z
      by_cases hi : i < ρ.length
      · rw [List.getElem?_set_self hi] at q; cases q
      · rw [List.getElem?_eq_none (by simpa using hi)] at q; cases q
    · rw [List.getElem?_set_ne z] at q ⊢
      exact R.own j e q
  inj := fun j k e f a q1 q2 h1 h2 => by
    have nj : i ≠ j := fun z => by
      subst z
      by_cases hi : i < ρ.length
      · rw [List.getElem?_set_self hi] at q1; cases q1
      · rw [List.getElem?_eq_none (by simpa using hi)] at q1; cases q1
    have nk : i ≠ k := fun z => by
      subst z
      by_cases hi : i < ρ.length
      · rw [List.getElem?_set_self hi] at q2; cases q2
      · rw [List.getElem?_eq_none (by simpa using hi)] at q2; cases q2
    rw [List.getElem?_set_ne nj] at q1 h1
    rw [List.getElem?_set_ne nk] at q2 h2
    exact R.inj j k e f a q1 q2 h1 h2
theorem Stp.slot {i : Nat} {c : Cell} {x : Option V} (hc : ∀ d, c ≠ .own d) : Stp σ ρ H S (σ.set i x) (ρ.set i c) H S :=
  ⟨fun _ _ h => ⟨_, h⟩, fun _ _ h _ => h, Sub.rfl, fun _ _ h => .inl ⟨_, h⟩, fun _ h => .inl (own_setv hc h)⟩
end
/-- a target whose stores are its own assign -/
def plainTg : Expr → Bool
  | .Starred .. => false
  | _ => true
structure PDG (X : Cx) (fx : Nat → Bool) (tg : Expr) (g : Gd) : Prop where
  run : ∀ W, Takes X W → PG X tg (tG X.K X.mg W fx g)
structure PDGs (X : Cx) (fx : Nat → Bool) (ts : List Expr) (gs : List Gd) : Prop where
  len : ts.length = gs.length
  plain : ts.all plainTg = true
  run : ∀ W, Takes X W → PGs X ts (tGs X.K X.mg W fx gs)
section
variable {X : Cx} {fx : Nat → Bool} {tg e : Expr} {ts : List Expr} {g : Gd} {gs : List Gd} {pos : Pos}
theorem PGimp {t t' : TG} (h : PG X tg t) (hi : ∀ x σ H Q, t' x σ H Q → t x σ H Q) : PG X tg t' :=
  ⟨fun pins s σ H v u Q I r q => h.run pins s σ H v u Q I r (hi v σ H Q q)⟩
theorem PGsimp {t t' : TGs} (h : PGs X ts t) (hi : ∀ x σ H Q, t' x σ H Q → t x σ H Q) : PGs X ts t' :=
  ⟨fun pins s σ H v u Q I r q => h.run pins s σ H v u Q I r (hi v σ H Q q)⟩
theorem fx_set {σ : St} {i : Nat} {x : Option V} (h : fx i = false) : ∀ j, fx j = true → (σ.set i x)[j]? = σ[j]? := fun j hj => by
  have : i ≠ j := fun z => by subst z; rw [h] at hj; cases hj
  rw [List.getElem?_set_ne this]
theorem dg_name {i : Nat} {x : Str} (hN : X.N.Nodup) (hi : X.N[i]? = some x) (hx : Loc X.env.scope x) (hf : X.fn x = true ∨ X.env.scope.names.lookup x = some .local) (hfx : fx i = false) : PDG X fx (.Name x pos) (gN i) :=
  ⟨fun W _ => PGimp (pg_name hN hi hx hf) fun y σ H Q ⟨S, ρ, d, R, hd, g⟩ => g _ H S (R.setVal hd) (Stp.slot fun _ z => nomatch z) (fx_set hfx) (List.length_set ..)⟩
theorem dgs_nil : PDGs X fx [] [] := ⟨rfl, rfl, fun W _ => PGsimp pgs_nil fun y σ H Q ⟨S, ρ, ds, R, hd, g⟩ => by
  cases ds with
  | nil => cases hd; exact ⟨rfl, g σ H S R Stp.refl (fun _ _ => rfl) rfl⟩
  | cons d ds => exact g.elim⟩
theorem each_cons {env : Env} (h : plainTg e = true) : (assignEach (e :: ts) env).map (·.2) = assign e env :: (assignEach ts env).map (·.2) := by
  cases e <;> first | rfl | cases h
theorem dgs_cons (h1 : PDG X fx e g) (h2 : PDGs X fx ts gs) (hs : plainTg e = true) : PDGs X fx (e :: ts) (g :: gs) := by
  refine ⟨congrArg (· + 1) h2.len, by rw [List.all_cons, hs, h2.plain]; rfl, fun W tk => PGsimp (pgs_cons (h1.run W tk) (h2.run W tk) (each_cons hs)) fun y σ H Q ⟨S, ρ, ds, R, hd, g0⟩ => ?_⟩
  cases ds with
  | nil => exact g0.elim
  | cons d ds =>
    cases hd with
    | cons hx hd =>
      refine ⟨_, _, rfl, S, ρ, d, R, hx, ?_⟩
      have g0 : GoodG X.K X.mg W fx σ ρ H S (bnd (g d ρ) fun _ ρ1 => gGo gs ds ρ1) Q := g0
      cases eg : g d ρ with
      | ok u ρ1 =>
        rw [eg] at g0
        exact fun σ' H' S' R' s' f' l' => ⟨S', ρ1, ds, R', hd.mono s'.mono, GoodG.adv s' f' l' g0⟩
      | exc y ρ1 => rw [eg] at g0; exact g0
      | bad => rw [eg] at g0; exact g0
theorem each_len {env : Env} : ∀ {ts : List Expr}, (assignEach ts env).length = ts.length
  | [] => rfl
  | e :: ts => by
    have ih := each_len (env := env) (ts := ts)
    cases e <;> exact congrArg (· + 1) ih
theorem each_nostar {env : Env} : ∀ {ts : List Expr}, ts.all plainTg = true → (assignEach ts env).findIdx? (·.1) = none
  | [], _ => rfl
  | e :: ts, h => by
    rw [List.all_cons, Bool.and_eq_true] at h
    have ih := each_nostar (env := env) h.2
    cases e <;> first
      | (cases h.1; done)
      | (show (List.findIdx? _ (_ :: _)) = none
         rw [List.findIdx?_cons]
         show (if false = true then _ else _) = none
         rw [if_neg Bool.false_ne_true, ih]; rfl)
theorem dg_tup {k : Nat} (hc : X.calm = true) (h : PDGs X fx ts gs) : PDG X fx (.Tuple ts k pos) (gT gs) := by
  refine ⟨fun W tk => PGimp (pg_tup hc (h.run W tk) (each_len.trans h.len) (each_nostar h.plain)) fun y σ H Q ⟨S, ρ, d, R, hd, g0⟩ => ?_⟩
  unfold gT at g0
  split at g0
  · split at g0
    · rename_i l hl
      cases hd with
      | tup ha da => exact ⟨_, _, rfl, R.sub.seqT ha, da.length.trans hl, S, ρ, _, R, da, g0⟩
    · exact g0.elim
  · exact g0.elim
end

/-! ### list comprehensions -/
def wipeE (ρ : DEnv) : List Nat → DEnv
  | [] => ρ
  | v :: vs => (wipeE ρ vs).set v .no
/-- the cells at vs as they were in ρ0 -/
def backE (ρ ρ0 : DEnv) : List Nat → DEnv
  | [] => ρ
  | v :: vs => (backE ρ ρ0 vs).set v (ρ0.getD v .no)
/-- the object that is walked stands as it stood -/
noncomputable def srcChk (vs : List Nat) (ρ : DEnv) : Option (Nat × D) → Bool
  | none => true
  | some (i, d) => !vs.contains i && match ρ[i]? with
    | some (.own e) => D.same e d
    | some (.val e) => D.same e d
    | _ => false
/-- what runs in a comprehension raises nothing -/
def nox {α β : Type} (o : Out α) (k : α → DEnv → Out β) : Out β := match o with
  | .ok a ρ => k a ρ
  | _ => .bad
noncomputable def compGo (src : Option (Nat × D)) (tg : Gd) (tt : Sm Bool) (te : Sm Rv) (vs : List Nat) : List D → List D → DEnv → Out (List D)
  | [], acc, ρ => if srcChk vs ρ src = true then .ok acc ρ else .bad
  | d :: ds, acc, ρ => if srcChk vs ρ src = true then
      nox (tg d ρ) fun _ ρ1 => nox (tt ρ1) fun b ρ2 =>
        if b = true then nox (te ρ2) fun r ρ3 => match frz r ρ3 with
          | some (e, ρ4) => if small (acc.length + 1) = true then compGo src tg tt te vs ds (acc ++ [e]) (wipeE ρ4 vs) else .bad
          | none => .bad
        else compGo src tg tt te vs ds acc (wipeE ρ2 vs)
    else .bad
noncomputable def sLc (it : Sm Src) (tg : Gd) (tt : Sm Bool) (te : Sm Rv) (vs : List Nat) : Sm Rv := fun ρ => bnd (it ρ) fun s ρ1 =>
  nox (compGo s.2 tg tt te vs s.1 [] (wipeE ρ1 vs)) fun acc ρ2 => .ok (.f (.lst acc)) (backE ρ2 ρ1 vs)
def tYesD : Sm Bool := fun ρ => .ok true ρ

section
variable {K : PySem.W.Frag} {mg : MG} {W : WX} {σ : St} {ρ ρ1 ρ' : DEnv} {H S H1 S1 : Hp}
theorem wipeE_len : ∀ {vs : List Nat}, (wipeE ρ vs).length = ρ.length
  | [] => rfl
  | v :: vs => by unfold wipeE; rw [List.length_set, wipeE_len]
theorem backE_len {ρ0 : DEnv} : ∀ {vs : List Nat}, (backE ρ ρ0 vs).length = ρ.length
  | [] => rfl
  | v :: vs => by unfold backE; rw [List.length_set, backE_len]
theorem wipeE_get {i : Nat} : ∀ {vs : List Nat}, (wipeE ρ vs)[i]? = if i ∈ vs then (ρ[i]?).map (fun _ => Cell.no) else ρ[i]?
  | [] => by simp [wipeE]
  | v :: vs => by
    unfold wipeE
    by_cases h : v = i
    · subst h
      rw [if_pos List.mem_cons_self]
      by_cases hv : v < ρ.length
      · rw [List.getElem?_set_self (by rw [wipeE_len]; exact hv), List.getElem?_eq_getElem hv]; rfl
      · rw [List.getElem?_eq_none (by rw [List.length_set, wipeE_len]; omega), List.getElem?_eq_none (by omega)]; rfl
    · rw [List.getElem?_set_ne h, wipeE_get]
      have e : (i ∈ v :: vs) = (i ∈ vs) := by
        simp only [List.mem_cons, eq_iff_iff]
        exact ⟨fun z => z.elim (fun z => absurd z.symm h) id, .inr⟩
      simp only [e]
theorem wipe_get {i : Nat} : ∀ {vs : List Nat}, (wipe σ vs)[i]? = if i ∈ vs then (σ[i]?).map (fun _ => none) else σ[i]?
  | [] => by simp [wipe]
  | v :: vs => by
    unfold wipe
    by_cases h : v = i
    · subst h
      rw [if_pos List.mem_cons_self]
      by_cases hv : v < σ.length
      · rw [List.getElem?_set_self (by rw [wipe_length]; exact hv), List.getElem?_eq_getElem hv]; rfl
      · rw [List.getElem?_eq_none (by rw [List.length_set, wipe_length]; omega), List.getElem?_eq_none (by omega)]; rfl
    · rw [List.getElem?_set_ne h, wipe_get]
      have e : (i ∈ v :: vs) = (i ∈ vs) := by
        simp only [List.mem_cons, eq_iff_iff]
        exact ⟨fun z => z.elim (fun z => absurd z.symm h) id, .inr⟩
      simp only [e]
theorem backE_get {ρ0 : DEnv} (hl : ρ0.length = ρ.length) {i : Nat} : ∀ {vs : List Nat}, (backE ρ ρ0 vs)[i]? = if i ∈ vs then ρ0[i]? else ρ[i]?
  | [] => by simp [backE]
  | v :: vs => by
    unfold backE
    by_cases h : v = i
    · subst h
      rw [if_pos List.mem_cons_self]
      by_cases hv : v < ρ.length
      · rw [List.getElem?_set_self (by rw [backE_len]; exact hv), List.getD_eq_getElem?_getD, List.getElem?_eq_getElem (by omega)]; rfl
      · rw [List.getElem?_eq_none (by rw [List.length_set, backE_len]; omega), List.getElem?_eq_none (by omega)]
    · rw [List.getElem?_set_ne h, backE_get hl]
      have e : (i ∈ v :: vs) = (i ∈ vs) := by
        simp only [List.mem_cons, eq_iff_iff]
        exact ⟨fun z => z.elim (fun z => absurd z.symm h) id, .inr⟩
      simp only [e]
theorem Rep.wipe (R : Rep K H S σ ρ) (vs : List Nat) : Rep K H S (wipe σ vs) (wipeE ρ vs) := by
  have key : ∀ {i : Nat} {c : Cell}, (wipeE ρ vs)[i]? = some c → c ≠ .no → i ∉ vs ∧ ρ[i]? = some c ∧ (L2.wipe σ vs)[i]? = σ[i]? := fun {i c} h hc => by
    rw [wipeE_get] at h
    by_cases hi : i ∈ vs
    · rw [if_pos hi] at h
      cases q : ρ[i]? with
      | none => rw [q] at h; cases h
      | some c' => rw [q] at h; cases h; exact absurd rfl hc
    · rw [if_neg hi] at h
      exact ⟨hi, h, by rw [wipe_get, if_neg hi]⟩
  exact {
    sub := R.sub
    len := by rw [wipeE_len, wipe_length]; exact R.len
    val := fun i d h => by
      obtain ⟨_, h1, h2⟩ := key h fun z => nomatch z
      rw [h2]; exact R.val i d h1
    own := fun i d h => by
      obtain ⟨_, h1, h2⟩ := key h fun z => nomatch z
      rw [h2]; exact R.own i d h1
    inj := fun i j d e a h h' q q' => by
      obtain ⟨_, h1, h2⟩ := key h fun z => nomatch z
      obtain ⟨_, h3, h4⟩ := key h' fun z => nomatch z
      rw [h2] at q
      rw [h4] at q'
      exact R.inj i j d e a h1 h3 q q' }
theorem own_wipe {vs : List Nat} {b : Addr} (h : Own (L2.wipe σ vs) (wipeE ρ vs) b) : Own σ ρ b := by
  obtain ⟨i, d, h1, h2⟩ := h
  rw [wipeE_get] at h1
  by_cases hi : i ∈ vs
  · rw [if_pos hi] at h1
    cases q : ρ[i]? with
    | none => rw [q] at h1; cases h1
    | some c' => rw [q] at h1; cases h1
  · rw [if_neg hi] at h1
    rw [wipe_get, if_neg hi] at h2
    exact ⟨i, d, h1, h2⟩
theorem own_wipeE {vs : List Nat} {b : Addr} (h : Own σ (wipeE ρ vs) b) : Own σ ρ b := by
  obtain ⟨i, d, h1, h2⟩ := h
  rw [wipeE_get] at h1
  by_cases hi : i ∈ vs
  · rw [if_pos hi] at h1
    cases q : ρ[i]? with
    | none => rw [q] at h1; cases h1
    | some c' => rw [q] at h1; cases h1
  · rw [if_neg hi] at h1
    exact ⟨i, d, h1, h2⟩
/-- the heap without the address D -/
def er (H : Hp) (D : Addr) : Hp := fun b => if b = D then none else H b
theorem er_ne {D b : Addr} (h : b ≠ D) : er H D b = H b := by unfold er; rw [if_neg h]
theorem er_same {D : Addr} : er H D D = none := by unfold er; rw [if_pos rfl]
theorem er_none {D : Addr} (h : H D = none) : er H D = H := by
  funext b
  by_cases q : b = D
  · subst q; rw [er_same, h]
  · rw [er_ne q]
theorem er_upd {D : Addr} {o : HO} : er (upd H D o) D = er H D := by
  funext b
  by_cases q : b = D
  · subst q; rw [er_same, er_same]
  · rw [er_ne q, er_ne q, upd_ne q]
theorem Stp.er {σ' : St} {H' S' : Hp} {D : Addr} (s : Stp σ ρ H S σ' ρ' H' S') : Stp σ ρ (er H D) S σ' ρ' (er H' D) S' where
  dom := fun b o h => by
    have q : b ≠ D := fun q => by subst q; rw [er_same] at h; cases h
    rw [er_ne q] at h ⊢
    exact s.dom b o h
  frame := fun b o h n => by
    have q : b ≠ D := fun q => by subst q; rw [er_same] at h; cases h
    rw [er_ne q] at h ⊢
    exact s.frame b o h n
  mono := s.mono
  sg := fun b o h => by
    rcases s.sg b o h with z | z | z
    · exact .inl z
    · exact .inr (.inl z)
    · refine .inr (.inr ?_)
      by_cases q : b = D
      · subst q; exact er_same
      · rw [er_ne q]; exact z
  og := fun b h => by
    rcases s.og b h with z | z
    · exact .inl z
    · refine .inr ?_
      by_cases q : b = D
      · subst q; exact er_same
      · rw [er_ne q]; exact z
/-- an object that nobody here speaks of is changed -/
theorem Rep.updFree {D : Addr} {o : HO} (R : Rep K H S σ ρ) (hs : S D = none) (ho : ¬ Own σ ρ D) : Rep K (upd H D o) S σ ρ where
  sub := fun b u e => by
    have q : b ≠ D := fun q => by subst q; rw [hs] at e; cases e
    rw [upd_ne q]; exact R.sub b u e
  len := R.len
  val := R.val
  own := fun i d e => by
    obtain ⟨a, e1, e2, e3⟩ := R.own i d e
    have q : a ≠ D := fun q => by subst q; exact ho ⟨i, d, e, e1⟩
    exact ⟨a, e1, e2, e3.mono Sub.rfl fun o z => by rw [upd_ne q]; exact z⟩
  inj := R.inj
theorem Stp.cells {σ' : St} {ρ' : DEnv} (h : ∀ b, Own σ' ρ' b → Own σ ρ b) : Stp σ ρ H S σ' ρ' H S :=
  ⟨fun _ _ h => ⟨_, h⟩, fun _ _ h _ => h, Sub.rfl, fun _ _ h => .inl ⟨_, h⟩, fun b z => .inl (h b z)⟩
theorem Stp.noS (s : Stp σ ρ H S σ ρ' H1 S1) {D : Addr} {o : HO} (hD : H D = some o) (hs : S D = none) (ho : ¬ Own σ ρ D) : S1 D = none := by
  cases q : S1 D with
  | none => rfl
  | some u =>
    rcases s.sg D u q with ⟨_, z⟩ | z | z
    · rw [hs] at z; cases z
    · exact absurd z ho
    · rw [hD] at z; cases z
theorem Stp.noS' {σ' : St} (s : Stp σ ρ H S σ' ρ' H1 S1) {D : Addr} {o : HO} (hD : H D = some o) (hs : S D = none) (ho : ¬ Own σ ρ D) : S1 D = none := by
  cases q : S1 D with
  | none => rfl
  | some u =>
    rcases s.sg D u q with ⟨_, z⟩ | z | z
    · rw [hs] at z; cases z
    · exact absurd z ho
    · rw [hD] at z; cases z
theorem Stp.noO {σ' : St} (s : Stp σ ρ H S σ' ρ' H1 S1) {D : Addr} {o : HO} (hD : H D = some o) (ho : ¬ Own σ ρ D) : ¬ Own σ' ρ' D := fun z => by
  rcases s.og D z with z | z
  · exact ho z
  · rw [hD] at z; cases z
theorem nox_ok {α β : Type} {o : Out α} {k : α → DEnv → Out β} {z : β} {ρz : DEnv} (h : nox o k = .ok z ρz) : ∃ a ρ1, o = .ok a ρ1 ∧ k a ρ1 = .ok z ρz := by
  cases o with
  | ok a ρ1 => exact ⟨a, ρ1, rfl, h⟩
  | exc _ _ => cases h
  | bad => cases h
theorem srcOk_of {vs : List Nat} {src : Option (Nat × D)} (h : srcChk vs ρ src = true) : SrcOk σ (L2.wipe σ vs) ρ src := by
  cases src with
  | none => trivial
  | some p =>
    obtain ⟨i, d⟩ := p
    unfold srcChk at h
    rw [Bool.and_eq_true] at h
    have hi : i ∉ vs := by simpa using h.1
    refine ⟨by rw [wipe_get, if_neg hi], ?_⟩
    have h2 := h.2
    split at h2
    · rename_i e q
      rw [same_eq h2] at q; exact .inl q
    · rename_i e q
      rw [same_eq h2] at q; exact .inr q
    · cases h2
abbrev WF : WX := fun _ _ _ _ => False
theorem wipe_same {vs : List Nat} {σ2 : St} (hl : σ2.length = (L2.wipe σ vs).length) (hf : ∀ i, (!vs.contains i) = true → σ2[i]? = (L2.wipe σ vs)[i]?) : L2.wipe σ2 vs = L2.wipe σ vs := by
  refine List.ext_getElem? fun i => ?_
  rw [wipe_get, wipe_get]
  by_cases hi : i ∈ vs
  · rw [if_pos hi, if_pos hi]
    rw [wipe_length] at hl
    by_cases hs : i < σ.length
    · rw [List.getElem?_eq_getElem hs, List.getElem?_eq_getElem (by omega)]; rfl
    · rw [List.getElem?_eq_none (by omega), List.getElem?_eq_none (by omega)]
  · rw [if_neg hi, if_neg hi]
    have := hf i (by simpa using hi)
    rw [this, wipe_get, if_neg hi]
end
end L2.DL

/-! D layer, part 11: list comprehensions are sound -/
namespace L2.DL
open PySem PySem.Spec PyProof.Rows L2

/-- between two turns: the new list at A holds acc -/
structure CI (K : PySem.W.Frag) (σw : St) (ρw : DEnv) (H1 S1 : Hp) (A : Addr) (H S : Hp) (ρ : DEnv) (acc : List D) (xs : List V) : Prop where
  rep : Rep K H S σw ρ
  stp : Stp σw ρw H1 S1 σw ρ (er H A) S
  cell : H A = some (.lst xs)
  den : DenL K S xs acc
  noS : S A = none
  noO : ¬ Own σw ρ A

section
variable {K : PySem.W.Frag} {mg : MG} {W : WX} {σ : St} {ρ ρ1 ρ' : DEnv} {H S H1 S1 : Hp} {Q : VK}
theorem comp_back {vs : List Nat} {ρF : DEnv} {HF SF : Hp} {A : Addr} {acc : List D} {xs : List V} (R1 : Rep K H1 S1 σ ρ1) (hA : H1 A = none) (c : CI K (wipe σ vs) (wipeE ρ1 vs) H1 S1 A HF SF ρF acc xs) :
    Rep K HF SF σ (backE ρF ρ1 vs) ∧ Stp σ ρ1 H1 S1 σ (backE ρF ρ1 vs) HF SF ∧ ¬ Own σ (backE ρF ρ1 vs) A := by
  have hl : ρ1.length = ρF.length := by
    have := c.rep.len
    rw [wipe_length] at this
    exact R1.len.trans this.symm
  have notA : ∀ {b : Addr} {o : HO}, H1 b = some o → b ≠ A := fun h q => by subst q; rw [hA] at h; cases h
  have stay : ∀ {b : Addr} {o : HO}, H1 b = some o → ¬ Own (wipe σ vs) (wipeE ρ1 vs) b → HF b = some o := fun {b o} h n => by
    have := c.stp.frame b o h n
    rw [er_ne (notA h)] at this
    exact this
  -- a slot among vs that owns: its object is not among those that the block may change
  have out : ∀ {i : Nat} {d : D} {a : Addr}, i ∈ vs → ρ1[i]? = some (.own d) → σ[i]? = some (some (.ref a)) → ¬ Own (wipe σ vs) (wipeE ρ1 vs) a := fun {i d a} hi h1 h2 z => by
    obtain ⟨j, e, z1, z2⟩ := z
    rw [wipeE_get] at z1
    by_cases hj : j ∈ vs
    · rw [if_pos hj] at z1
      cases q : ρ1[j]? with
      | none => rw [q] at z1; cases z1
      | some c' => rw [q] at z1; cases z1
    · rw [if_neg hj] at z1
      rw [wipe_get, if_neg hj] at z2
      have := R1.inj i j d e a h1 z1 h2 z2
      subst this
      exact hj hi
  have noS : ∀ {b : Addr} {o : HO}, H1 b = some o → S1 b = none → ¬ Own (wipe σ vs) (wipeE ρ1 vs) b → SF b = none := fun {b o} h hs n => c.stp.noS' h hs n
  have ownF : ∀ {i : Nat} {d : D} {a : Addr}, i ∉ vs → ρF[i]? = some (.own d) → σ[i]? = some (some (.ref a)) → Own (wipe σ vs) (wipeE ρ1 vs) a ∨ H1 a = none := fun {i d a} hi h1 h2 =>
    c.stp.og a ⟨i, d, h1, by rw [wipe_get, if_neg hi]; exact h2⟩
  refine ⟨⟨c.rep.sub, by rw [backE_len, ← hl]; exact R1.len, fun i d h => ?_, fun i d h => ?_, fun i j d e a h1 h2 h3 h4 => ?_⟩, ⟨fun b o h => ?_, fun b o h n => stay h fun z => n (own_wipe z), c.stp.mono, fun b o h => ?_, fun b h => ?_⟩, fun h => ?_⟩
  · rw [backE_get hl] at h
    by_cases hi : i ∈ vs
    · rw [if_pos hi] at h
      obtain ⟨v, e1, e2⟩ := R1.val i d h
      exact ⟨v, e1, e2.mono c.stp.mono⟩
    · rw [if_neg hi] at h
      have := c.rep.val i d h
      rw [wipe_get, if_neg hi] at this
      exact this
  · rw [backE_get hl] at h
    by_cases hi : i ∈ vs
    · rw [if_pos hi] at h
      obtain ⟨a, e1, e2, e3⟩ := R1.own i d h
      obtain ⟨o, eo⟩ := e3.there
      have n := out hi h e1
      exact ⟨a, e1, noS eo e2 n, e3.mono c.stp.mono fun o' z => stay z n⟩
    · rw [if_neg hi] at h
      have := c.rep.own i d h
      rw [wipe_get, if_neg hi] at this
      exact this
  · rw [backE_get hl] at h1 h2
    by_cases hi : i ∈ vs
    · rw [if_pos hi] at h1
      by_cases hj : j ∈ vs
      · rw [if_pos hj] at h2
        exact R1.inj i j d e a h1 h2 h3 h4
      · rw [if_neg hj] at h2
        obtain ⟨a', e1, e2, e3⟩ := R1.own i d h1
        rw [h3] at e1; cases e1
        obtain ⟨o, eo⟩ := e3.there
        rcases ownF hj h2 h4 with z | z
        · exact absurd z (out hi h1 h3)
        · rw [eo] at z; cases z
    · rw [if_neg hi] at h1
      by_cases hj : j ∈ vs
      · rw [if_pos hj] at h2
        obtain ⟨a', e1, e2, e3⟩ := R1.own j e h2
        rw [h4] at e1; cases e1
        obtain ⟨o, eo⟩ := e3.there
        rcases ownF hi h1 h3 with z | z
        · exact absurd z (out hj h2 h4)
        · rw [eo] at z; cases z
      · rw [if_neg hj] at h2
        exact c.rep.inj i j d e a h1 h2 (by rw [wipe_get, if_neg hi]; exact h3) (by rw [wipe_get, if_neg hj]; exact h4)
  · obtain ⟨o', e⟩ := c.stp.dom b o h
    rw [er_ne (notA h)] at e
    exact ⟨o', e⟩
  · rcases c.stp.sg b o h with z | z | z
    · exact .inl z
    · exact .inr (.inl (own_wipe z))
    · exact .inr (.inr z)
  · obtain ⟨i, d, h1, h2⟩ := h
    rw [backE_get hl] at h1
    by_cases hi : i ∈ vs
    · rw [if_pos hi] at h1
      exact .inl ⟨i, d, h1, h2⟩
    · rw [if_neg hi] at h1
      rcases ownF hi h1 h2 with z | z
      · exact .inl (own_wipe z)
      · exact .inr z
  · obtain ⟨i, d, h1, h2⟩ := h
    rw [backE_get hl] at h1
    by_cases hi : i ∈ vs
    · rw [if_pos hi] at h1
      obtain ⟨a', e1, e2, e3⟩ := R1.own i d h1
      rw [h2] at e1; cases e1
      obtain ⟨o, eo⟩ := e3.there
      rw [hA] at eo; cases eo
    · rw [if_neg hi] at h1
      exact c.noO ⟨i, d, h1, by rw [wipe_get, if_neg hi]; exact h2⟩

theorem lc_t {it : Sm Src} {tg : Gd} {tt : Sm Bool} {te : Sm Rv} {vs : List Nat} (h : tE K mg W (sLc it tg tt te vs) σ H Q) :
    tLc (tI K mg W it) (tG K mg WF (fun i => !vs.contains i) tg) (tT K mg WF tt) (tE K mg WF te) vs σ H Q := by
  obtain ⟨S, ρ, R, g0⟩ := h
  refine tI_bnd (G := fun o => GoodE K mg W σ ρ H S o Q) S ρ R g0 (fun _ _ z => z) (fun z => z) fun s ρ1 _ g1 J H1 S1 R1 s1 io => ?_
  have g1 := GoodE.adv s1 g1
  obtain ⟨items, src⟩ := s
  intro A hA
  -- the comprehension's outcome
  cases eo : compGo src tg tt te vs items [] (wipeE ρ1 vs) with
  | bad => simp only [nox, eo] at g1; exact g1.elim
  | exc y ρy => simp only [nox, eo] at g1; exact g1.elim
  | ok accF ρF =>
  simp only [nox, eo] at g1
  have R0 := R1.wipe vs
  have Rw : Rep K (upd H1 A (.lst [])) S1 (wipe σ vs) (wipeE ρ1 vs) := R0.heap (sub_upd hA)
  refine ⟨fun i m H2 => m = items.length - i ∧ i ≤ items.length ∧ ∃ S2 ρ2 acc xs, CI K (wipe σ vs) (wipeE ρ1 vs) H1 S1 A H2 S2 ρ2 acc xs ∧ compGo src tg tt te vs (items.drop i) acc ρ2 = .ok accF ρF,
    ⟨items.length, by simp, Nat.zero_le _, S1, wipeE ρ1 vs, [], [], ⟨Rw, ?_, upd_same, .nil, R1.freeS hA, fun z => ?_⟩, by simpa using eo⟩, ?_⟩
  · rw [er_upd, er_none hA]; exact Stp.refl
  · obtain ⟨o, e⟩ := R0.there z
    rw [hA] at e; cases e
  rintro i m H2 ⟨rfl, hi, S2, ρ2, acc, xs, c, go⟩
  by_cases hlt : i < items.length
  · -- one more turn
    have ed : items.drop i = items[i] :: items.drop (i + 1) := List.drop_eq_getElem_cons hlt
    rw [ed] at go
    unfold compGo at go
    split at go
    · rename_i hchk
      have io2 := io H2 S2 (wipe σ vs) ρ2 c.rep c.stp.mono (srcOk_of hchk)
      obtain ⟨jgo, jy⟩ := io2.1 i items[i] (List.getElem?_eq_getElem hlt)
      obtain ⟨u, ρ3, eg, go⟩ := nox_ok go
      obtain ⟨b, ρ4, et, go⟩ := nox_ok go
      refine .inr ⟨jgo, fun H' => i + 1 ≤ items.length ∧ ∃ S2 ρ2 acc xs, CI K (wipe σ vs) (wipeE ρ1 vs) H1 S1 A H' S2 ρ2 acc xs ∧ compGo src tg tt te vs (items.drop (i + 1)) acc ρ2 = .ok accF ρF,
        fun H' hn => ⟨items.length - (i + 1), by omega, rfl, hn.1, hn.2⟩, fun x H3 hy => ?_⟩
      obtain ⟨S3, R3, s3, d3⟩ := jy x H3 hy
      refine ⟨S3, ρ2, items[i], R3, d3, ?_⟩
      rw [eg]
      intro σ4 H4 S4 R4 s4 f4 l4
      have ws := wipe_same (σ := σ) l4 f4
      have s24 := s3.trans s4
      refine ⟨ws, S4, ρ3, R4, ?_⟩
      rw [et]
      intro H5 S5 R5 s5
      have s25 := s24.trans s5
      cases b with
      | false =>
        rw [if_neg Bool.false_ne_true] at go ⊢
        refine ⟨hlt, S5, wipeE ρ4 vs, acc, xs, ⟨?_, ?_, s25.frame A _ c.cell c.noO, c.den.mono s25.mono, s25.noS' c.cell c.noS c.noO, ?_⟩, go⟩
        · have := R5.wipe vs
          rw [ws] at this
          exact this
        · have := s25.er (D := A)
          refine c.stp.trans (this.trans (Stp.cells fun b z => ?_))
          rw [← ws] at z
          exact own_wipe z
        · intro z
          rw [← ws] at z
          exact s25.noO c.cell c.noO (own_wipe z)
      | true =>
        rw [if_pos rfl] at go ⊢
        obtain ⟨r, ρ5, ee, go⟩ := nox_ok go
        refine ⟨S5, ρ4, R5, ?_⟩
        rw [ee]
        intro y H6 S6 R6 s6 t6 n6
        have s26 := s25.trans s6
        split at go
        · rename_i e ρ6 ef
          split at go
          · rename_i hz
            have nw := nw_adv s25 n6
            obtain ⟨S7, R7, s27, hd, hs7, _⟩ := frz_ok R6 s26 (t6.tf nw) ef
            have hcell := s27.frame A _ c.cell c.noO
            have noS7 := s27.noS' c.cell c.noS c.noO
            have noO7 := s27.noO c.cell c.noO
            refine ⟨xs, hcell, ?_, hlt, S7, wipeE ρ6 vs, acc ++ [e], xs ++ [y], ⟨?_, ?_, upd_same, (c.den.mono s27.mono).append (.cons hd .nil), noS7, ?_⟩, go⟩
            · have := small_le hz
              rw [c.den.length]
              omega
            · have := (R7.updFree (o := .lst (xs ++ [y])) noS7 noO7).wipe vs
              rw [ws] at this
              exact this
            · rw [er_upd]
              have := s27.er (D := A)
              refine c.stp.trans (this.trans (Stp.cells fun b z => ?_))
              rw [← ws] at z
              exact own_wipe z
            · intro z
              rw [← ws] at z
              exact noO7 (own_wipe z)
          · cases go
        · cases go
    · cases go
  · -- the end
    have e : i = items.length := by omega
    subst e
    rw [List.drop_length] at go
    unfold compGo at go
    split at go
    · rename_i hchk
      cases go
      have io2 := io H2 S2 (wipe σ vs) ρF c.rep c.stp.mono (srcOk_of hchk)
      obtain ⟨Rb, sb, nb⟩ := comp_back R1 hA c
      refine .inl ⟨io2.2, g1 (.ref A) H2 S2 Rb sb ⟨A, rfl, c.noS, nb, xs, c.cell, c.den⟩ fun a ea => ?_⟩
      cases ea
      exact .inr hA
    · cases go
end
/-- a clause's tests -/
structure PDTs (X : Cx) (ifs : List Expr) (f : Sm Bool) : Prop where
  run : ∀ W, Takes X W → PTs X ifs (tT X.K X.mg W f)
section
variable {X : Cx} {e c tg iter elt : Expr} {f : Sm Bool} {pos : Pos}
theorem PTsimp {ifs : List Expr} {t t' : TT} (h : PTs X ifs t) (hi : ∀ σ H Q, t' σ H Q → t σ H Q) : PTs X ifs t' :=
  ⟨fun pins s σ H Q I q => h.run pins s σ H Q I (hi σ H Q q)⟩
theorem dts_nil : PDTs X [] tYesD := ⟨fun W _ => PTsimp pts_nil fun σ H Q ⟨S, ρ, R, g⟩ => g H S R Stp.refl⟩
theorem dts_one (h : PDT X c f) : PDTs X [c] f := ⟨fun W tk => pts_one (h.run W tk)⟩
theorem takes_blk {s : Shared} {H : Hp} {scope : Scope} {cenv : Env} {fp : List Addr} : Takes (X.blk s H scope cenv fp) WF := fun u s' ⟨a, B, sI, pins, σ, H, cls, d, e, I, nb, up, sky, na, os, ag, w⟩ => w.elim
theorem de_lc {ifs : List Expr} {scope : Scope} {own : List (Str × Nat)} {fi : Sm Src} {g : Gd} {tt : Sm Bool} {te : Sm Rv} (hc : X.calm = true) (hN : X.N.Nodup) (hi : PDI X tg iter fi) (ok : BlkOk X.N X.env.scope scope own)
    (hg : ∀ (s : Shared) (H : Hp) (C : Addr) (cl : List (Str × Addr)) (fp : List Addr), PDG (X.blk s H scope (compEnvC scope cl C X.env) fp) (fun i => !(own.map (·.2)).contains i) tg g)
    (ht : ∀ (s : Shared) (H : Hp) (C : Addr) (cl : List (Str × Addr)) (fp : List Addr), PDTs (X.blk s H scope (compEnvC scope cl C X.env) fp) ifs tt)
    (he : ∀ (s : Shared) (H : Hp) (C : Addr) (cl : List (Str × Addr)) (fp : List Addr), PDE (X.blk s H scope (compEnvC scope cl C X.env) fp) elt te) (hs : ∀ x, foldedSetIterable iter X.env x = pure x) :
    PDE X (.ListComp elt [⟨tg, iter, ifs, 0⟩] scope pos) (sLc fi g tt te (own.map (·.2))) :=
  ⟨fun W tk => PEimp (pe_lc hc hN (hi.run W tk) ok (fun s H C cl fp => (hg s H C cl fp).run WF takes_blk) (fun s H C cl fp => (ht s H C cl fp).run WF takes_blk) (fun s H C cl fp => (he s H C cl fp).run WF takes_blk) hs) fun σ H Q => lc_t⟩
end
end L2.DL

/-! D layer, part 12: stores -/
namespace L2.DL
open PySem PySem.Spec PyProof.Rows L2

/-- a slot's object is handed on as data -/
def unl : Rv → DEnv → Option (Rv × DEnv)
  | .l i, ρ => match frz (.l i) ρ with
    | some (d, ρ1) => some (.v d, ρ1)
    | none => none
  | r, ρ => some (r, ρ)
def unls : List Rv → DEnv → Option (List Rv × DEnv)
  | [], ρ => some ([], ρ)
  | r :: rs, ρ => match unl r ρ with
    | some (q, ρ1) => match unls rs ρ1 with
      | some (qs, ρ2) => some (q :: qs, ρ2)
      | none => none
    | none => none
abbrev Gr := Rv → DEnv → Out Unit
def rN (i : Nat) : Gr := fun r ρ => match r with
  | .v d => .ok () (ρ.set i (.val d))
  | .f d => .ok () (ρ.set i (.own d))
  | .l _ => .bad
def rT (gs : List Gd) : Gr := fun r ρ => match r with
  | .v d => gT gs d ρ
  | _ => .bad
def rGo : List Gr → List Rv → DEnv → Out Unit
  | [], [], ρ => .ok () ρ
  | g :: gs, d :: ds, ρ => bnd (g d ρ) fun _ ρ1 => rGo gs ds ρ1
  | _, _, _ => .bad
/-- i[ix] = the value, i a slot's own object -/
def rSub (i : Nat) (ix : Sm Rv) (up : D → D → D → Option D) : Gr := fun r ρ => match ρ[i]? with
  | some (.own _) => match frz r ρ with
    | some (d, ρ1) => bnd (ix ρ1) fun q ρ2 => match deref q ρ2, ρ2[i]? with
      | some k, some (.own c) => match up c k d with
        | some c' => .ok () (ρ2.set i (.own c'))
        | none => .bad
      | _, _ => .bad
    | none => .bad
  | _ => .bad

section
variable {K : PySem.W.Frag} {mg : MG} {W : WX} {σ σ0 σ' : St} {ρ ρ0 ρ1 ρ' : DEnv} {H S H0 S0 H1 S1 H' S' : Hp}
/-- a value to be stored: data, or a new object -/
def Tq (K : PySem.W.Frag) (H S : Hp) (σ : St) (ρ : DEnv) (P : Addr → Prop) (x : V) : Rv → Prop
  | .v d => Den K S x d
  | .f d => ∃ a, x = .ref a ∧ S a = none ∧ ¬ Own σ ρ a ∧ ObjD K H S a d ∧ P a
  | .l _ => False
def Tqs (K : PySem.W.Frag) (H S : Hp) (σ : St) (ρ : DEnv) (P : Addr → Prop) : List V → List Rv → Prop
  | [], [] => True
  | x :: xs, r :: rs => Tq K H S σ ρ P x r ∧ Tqs K H S σ ρ P xs rs
  | _, _ => False
/-- what a store of x leaves alone -/
def Keep (σ : St) (ρ : DEnv) (H S : Hp) (x : V) (r : Rv) (σ' : St) (ρ' : DEnv) (H' S' : Hp) : Prop :=
  Sub S S' ∧ ∀ b o, H b = some o → S b = none → ¬ Own σ ρ b → ((∃ d, r = .f d) → x ≠ .ref b) → H' b = some o ∧ S' b = none ∧ ¬ Own σ' ρ' b
theorem keep_stp {x : V} {r : Rv} (s : Stp σ ρ H S σ' ρ' H' S') : Keep σ ρ H S x r σ' ρ' H' S' :=
  ⟨s.mono, fun b o h1 h2 h3 _ => ⟨s.frame b o h1 h3, s.noS' h1 h2 h3, s.noO h1 h3⟩⟩
theorem Tq.stay {P : Addr → Prop} {x y : V} {r r0 : Rv} (t : Tq K H S σ ρ P y r) (k : Keep σ ρ H S x r0 σ' ρ' H' S') (h : (∃ d, r0 = .f d) → (∃ d, r = .f d) → y ≠ x) : Tq K H' S' σ' ρ' P y r := by
  cases r with
  | v d => exact t.mono k.1
  | f d =>
    obtain ⟨a, e1, e2, e3, e4, e5⟩ := t
    obtain ⟨o, eo⟩ := e4.there
    have ne : (∃ d, r0 = .f d) → x ≠ .ref a := fun q z => h q ⟨d, rfl⟩ (e1.trans z.symm)
    obtain ⟨f1, f2, f3⟩ := k.2 a o eo e2 e3 ne
    exact ⟨a, e1, f2, f3, e4.mono k.1 fun o' z => by rw [eo] at z; cases z; exact f1, e5⟩
  | l i => exact t
theorem Tqs.stay {P : Addr → Prop} {x : V} {r0 : Rv} (k : Keep σ ρ H S x r0 σ' ρ' H' S') : ∀ {ys : List V} {rs : List Rv}, Tqs K H S σ ρ P ys rs → ((∃ d, r0 = .f d) → Apart x ys rs) → Tqs K H' S' σ' ρ' P ys rs
  | [], [], _, _ => trivial
  | y :: ys, r :: rs, ⟨a, c⟩, h => ⟨a.stay k fun q => (h q).1, c.stay k fun q => (h q).2⟩
  | [], _ :: _, h, _ => h.elim
  | _ :: _, [], h, _ => h.elim
def GoodR (K : PySem.W.Frag) (mg : MG) (W : WX) (fx : Nat → Bool) (σ0 : St) (ρ0 : DEnv) (H0 S0 : Hp) (σ : St) (R : St → DEnv → Hp → Hp → Prop) (o : Out Unit) (Q : St → Hp → Prop) : Prop := match o with
  | .ok _ ρ' => ∀ σ' H' S', Rep K H' S' σ' ρ' → Stp σ0 ρ0 H0 S0 σ' ρ' H' S' → (∀ i, fx i = true → σ'[i]? = σ[i]?) → R σ' ρ' H' S' → Q σ' H'
  | .exc x ρ' => ∀ c d σ' H' S', Rep K H' S' σ' ρ' → Stp σ0 ρ0 H0 S0 σ' ρ' H' S' → (∀ i, fx i = true → σ'[i]? = σ[i]?) → IsX mg H' x c d → W c d σ' H'
  | .bad => False
def tR (K : PySem.W.Frag) (mg : MG) (W : WX) (fx : Nat → Bool) (g : Gr) : TG := fun x σ H Q => ∃ S ρ r σ0 ρ0 H0 S0, Rep K H S σ ρ ∧ Stp σ0 ρ0 H0 S0 σ ρ H S ∧ Tq K H S σ ρ (New σ0 ρ0 H0) x r ∧
  GoodR K mg W fx σ0 ρ0 H0 S0 σ (Keep σ ρ H S x r) (g r ρ) Q
def tRs (K : PySem.W.Frag) (mg : MG) (W : WX) (fx : Nat → Bool) (gs : List Gr) : TGs := fun xs σ H Q => ∃ S ρ rs σ0 ρ0 H0 S0, Rep K H S σ ρ ∧ Stp σ0 ρ0 H0 S0 σ ρ H S ∧ Tqs K H S σ ρ (New σ0 ρ0 H0) xs rs ∧ Aparts xs rs ∧
  GoodR K mg W fx σ0 ρ0 H0 S0 σ (fun _ _ _ _ => True) (rGo gs rs ρ) Q
/-- a slot takes a new object -/
theorem Rep.setOwn {i : Nat} {a : Addr} {d : D} (R : Rep K H S σ ρ) (hs : S a = none) (ho : ¬ Own σ ρ a) (h : ObjD K H S a d) : Rep K H S (σ.set i (some (.ref a))) (ρ.set i (.own d)) where
  sub := R.sub
  len := by rw [List.length_set, List.length_set]; exact R.len
  val := fun j e q => by
    by_cases z : i = j
    · subst z
      by_cases hi : i < ρ.length
      · rw [List.getElem?_set_self hi] at q; cases q
      · rw [List.getElem?_eq_none (by simpa using hi)] at q; cases q
    · rw [List.getElem?_set_ne z] at q ⊢
      exact R.val j e q
  own := fun j e q => by
    by_cases z : i = j
    · subst z
      by_cases hi : i < ρ.length
      · rw [List.getElem?_set_self hi] at q; cases q
        exact ⟨a, List.getElem?_set_self (by rw [← R.len]; exact hi), hs, h⟩
      · rw [List.getElem?_eq_none (by simpa using hi)] at q; cases q
    · rw [List.getElem?_set_ne z] at q ⊢
      exact R.own j e q
  inj := fun j k e f b q1 q2 h1 h2 => by
    have key : ∀ {j : Nat} {e : D} {b : Addr}, (ρ.set i (Cell.own d))[j]? = some (.own e) → (σ.set i (some (V.ref a)))[j]? = some (some (.ref b)) → i ≠ j → Own σ ρ b := fun {j e b} q h n => by
      rw [List.getElem?_set_ne n] at q h
      exact ⟨j, e, q, h⟩
    have self : ∀ {b : Addr}, (σ.set i (some (V.ref a)))[i]? = some (some (.ref b)) → b = a := fun {b} h => by
      by_cases hi : i < σ.length
      · rw [List.getElem?_set_self hi] at h; cases h; rfl
      · rw [List.getElem?_eq_none (by simpa using hi)] at h; cases h
    by_cases nj : i = j
    · by_cases nk : i = k
      · exact nj.symm.trans nk
      · subst nj
        have := self h1
        subst this
        exact absurd (key q2 h2 nk) ho
    · by_cases nk : i = k
      · subst nk
        have := self h2
        subst this
        exact absurd (key q1 h1 nj) ho
      · rw [List.getElem?_set_ne nj] at q1 h1
        rw [List.getElem?_set_ne nk] at q2 h2
        exact R.inj j k e f b q1 q2 h1 h2
theorem own_setOwn {i : Nat} {a b : Addr} {d : D} (h : Own (σ.set i (some (.ref a))) (ρ.set i (.own d)) b) : b = a ∨ Own σ ρ b := by
  obtain ⟨j, e, h1, h2⟩ := h
  by_cases q : i = j
  · subst q
    by_cases z : i < σ.length
    · rw [List.getElem?_set_self z] at h2; cases h2; exact .inl rfl
    · rw [List.getElem?_eq_none (by simpa using z)] at h2; cases h2
  · rw [List.getElem?_set_ne q] at h1 h2
    exact .inr ⟨j, e, h1, h2⟩
theorem Stp.setOwn {i : Nat} {a : Addr} {d : D} (s : Stp σ0 ρ0 H0 S0 σ ρ H S) (n : New σ0 ρ0 H0 a) : Stp σ0 ρ0 H0 S0 (σ.set i (some (.ref a))) (ρ.set i (.own d)) H S :=
  ⟨s.dom, s.frame, s.mono, s.sg, fun b h => by
    rcases own_setOwn h with z | z
    · subst z; exact n
    · exact s.og b z⟩
end
structure PDR (X : Cx) (fx : Nat → Bool) (tg : Expr) (g : Gr) : Prop where
  run : ∀ W, Takes X W → PG X tg (tR X.K X.mg W fx g)
structure PDRs (X : Cx) (fx : Nat → Bool) (ts : List Expr) (gs : List Gr) : Prop where
  len : ts.length = gs.length
  plain : ts.all plainTg = true
  run : ∀ W, Takes X W → PGs X ts (tRs X.K X.mg W fx gs)
section
variable {X : Cx} {fx : Nat → Bool} {tg e : Expr} {ts : List Expr} {g : Gr} {gs : List Gr} {pos : Pos}
theorem dr_name {i : Nat} {x : Str} (hN : X.N.Nodup) (hi : X.N[i]? = some x) (hx : Loc X.env.scope x) (hf : X.fn x = true ∨ X.env.scope.names.lookup x = some .local) (hfx : fx i = false) : PDR X fx (.Name x pos) (rN i) := by
  refine ⟨fun W _ => PGimp (pg_name hN hi hx hf) fun y σ H Q ⟨S, ρ, r, σ0, ρ0, H0, S0, R, s, t, g⟩ => ?_⟩
  cases r with
  | v d =>
    refine g _ H S (R.setVal t) (s.trans (Stp.slot fun _ z => nomatch z)) (fx_set hfx) (keep_stp (Stp.slot fun _ z => nomatch z))
  | f d =>
    obtain ⟨a, e1, e2, e3, e4, e5⟩ := t
    subst e1
    refine g _ H S (R.setOwn e2 e3 e4) (s.setOwn e5) (fx_set hfx) ⟨Sub.rfl, fun b o h1 h2 h3 h4 => ⟨h1, h2, fun z => ?_⟩⟩
    rcases own_setOwn z with q | q
    · subst q; exact h4 ⟨d, rfl⟩ rfl
    · exact h3 q
  | l j => exact t.elim
theorem dr_tup {k : Nat} {us : List Expr} {ds : List Gd} (hc : X.calm = true) (h : PDGs X fx us ds) : PDR X fx (.Tuple us k pos) (rT ds) := by
  refine ⟨fun W tk => PGimp ((dg_tup (pos := pos) (k := k) hc h).run W tk) fun y σ H Q ⟨S, ρ, r, σ0, ρ0, H0, S0, R, s, t, g⟩ => ?_⟩
  cases r with
  | v d =>
    refine ⟨S, ρ, d, R, t, ?_⟩
    have g : GoodR X.K X.mg W fx σ0 ρ0 H0 S0 σ (Keep σ ρ H S y (.v d)) (gT ds d ρ) Q := g
    cases eg : gT ds d ρ with
    | ok u ρ1 => rw [eg] at g; exact fun σ' H' S' R' s' f' _ => g σ' H' S' R' (s.trans s') f' (keep_stp s')
    | exc y ρ1 => rw [eg] at g; exact fun c dd σ' H' S' R' s' f' i => g c dd σ' H' S' R' (s.trans s') f' i
    | bad => rw [eg] at g; exact g
  | f d => exact g.elim
  | l j => exact t.elim
theorem drs_nil : PDRs X fx [] [] := by
  refine ⟨rfl, rfl, fun W _ => PGsimp pgs_nil fun y σ H Q ⟨S, ρ, rs, σ0, ρ0, H0, S0, R, s, t, _, g⟩ => ?_⟩
  cases rs with
  | nil =>
    cases y with
    | nil => exact ⟨rfl, g σ H S R s (fun _ _ => rfl) trivial⟩
    | cons _ _ => exact t.elim
  | cons r rs => exact g.elim
theorem drs_cons (h1 : PDR X fx e g) (h2 : PDRs X fx ts gs) (hs : plainTg e = true) : PDRs X fx (e :: ts) (g :: gs) := by
  refine ⟨congrArg (· + 1) h2.len, by rw [List.all_cons, hs, h2.plain]; rfl, fun W tk => PGsimp (pgs_cons (h1.run W tk) (h2.run W tk) (each_cons hs)) fun y σ H Q ⟨S, ρ, rs, σ0, ρ0, H0, S0, R, s, t, ap, g0⟩ => ?_⟩
  cases rs with
  | nil => exact g0.elim
  | cons r rs =>
    cases y with
    | nil => exact t.elim
    | cons y ys =>
      refine ⟨_, _, rfl, S, ρ, r, σ0, ρ0, H0, S0, R, s, t.1, ?_⟩
      have g0 : GoodR X.K X.mg W fx σ0 ρ0 H0 S0 σ (fun _ _ _ _ => True) (bnd (g r ρ) fun _ ρ1 => rGo gs rs ρ1) Q := g0
      cases eg : g r ρ with
      | ok u ρ1 =>
        rw [eg] at g0
        intro σ' H' S' R' s' f' k'
        refine ⟨S', ρ1, rs, σ0, ρ0, H0, S0, R', s', t.2.stay k' ap.1, ap.2, ?_⟩
        have g0 : GoodR X.K X.mg W fx σ0 ρ0 H0 S0 σ (fun _ _ _ _ => True) (rGo gs rs ρ1) Q := g0
        cases eg2 : rGo gs rs ρ1 with
        | ok u ρ2 => rw [eg2] at g0; exact fun σ2 H2 S2 R2 s2 f2 _ => g0 σ2 H2 S2 R2 s2 (fun i h => (f2 i h).trans (f' i h)) trivial
        | exc z ρ2 => rw [eg2] at g0; exact fun c dd σ2 H2 S2 R2 s2 f2 i => g0 c dd σ2 H2 S2 R2 s2 (fun j h => (f2 j h).trans (f' j h)) i
        | bad => rw [eg2] at g0; exact g0
      | exc y ρ1 => rw [eg] at g0; exact g0
      | bad => rw [eg] at g0; exact g0
end
end L2.DL

/-! D layer, part 13: statements -/
namespace L2.DL
open PySem PySem.Spec PyProof.Rows L2

/-! ### meanings -/
def sDrop (f : Sm Rv) : Sm Fl := fun ρ => bnd (f ρ) fun _ ρ1 => .ok .nx ρ1
def sRet (fx : Nat → Bool) (f : Sm Rv) : Sm Fl := fun ρ => bnd (f ρ) fun r ρ1 => match r with
  | .l i => match ρ1[i]? with
    | some (.val d) => .ok (.ret (.v d)) ρ1
    | some (.own d) => if fx i = true then .ok (.ret (.v d)) (ρ1.set i (.val d)) else .ok (.ret (.f d)) (ρ1.set i .no)
    | _ => .bad
  | r => .ok (.ret r) ρ1
def sRetN : Sm Fl := fun ρ => .ok (.ret (.v .non)) ρ
def sAsg (g : Gr) (f : Sm Rv) : Sm Fl := fun ρ => bnd (f ρ) fun r ρ1 => match unl r ρ1 with
  | some (q, ρ2) => bnd (g q ρ2) fun _ ρ3 => .ok .nx ρ3
  | none => .bad
noncomputable def sAsgs (gs : List Gr) (f : Sm (List Rv)) : Sm Fl := fun ρ => bnd (f ρ) fun rs ρ1 => match unls rs ρ1 with
  | some (qs, ρ2) => if small qs.length = true ∧ gs.length = qs.length then bnd (rGo gs qs ρ2) fun _ ρ3 => .ok .nx ρ3 else .bad
  | none => .bad
def sAug (i : Nat) (op : Op2) (f : Sm Rv) : Sm Fl := fun ρ => match ρ[i]? with
  | some (.val a) => bnd (f ρ) fun r ρ1 => match deref r ρ1 with
    | some b => match op a b with
      | some (.v d) => .ok .nx (ρ1.set i (.val d))
      | _ => .bad
    | none => .bad
  | _ => .bad
def sNx : Sm Fl := fun ρ => .ok .nx ρ
def sBrk : Sm Fl := fun ρ => .ok .brk ρ
def sCnt : Sm Fl := fun ρ => .ok .cnt ρ
def sBad : Sm Fl := fun _ => .bad
def sSeq (f g : Sm Fl) : Sm Fl := fun ρ => bnd (f ρ) fun r ρ1 => match r with
  | .nx => g ρ1
  | r => .ok r ρ1
def sIfS (t : Sm Bool) (f g : Sm Fl) : Sm Fl := fun ρ => bnd (t ρ) fun b ρ1 => if b = true then f ρ1 else g ρ1

section
variable {K : PySem.W.Frag} {mg : MG} {W : WX} {σ σ0 σ' : St} {ρ ρ0 ρ1 ρ' : DEnv} {H S H0 S0 H1 S1 H' S' : Hp}
theorem unl_ok {x : V} {r q : Rv} (R : Rep K H S σ ρ) (s : Stp σ0 ρ0 H0 S0 σ ρ H S) (t : Tm K H S σ ρ x r) (n : Nw (New σ0 ρ0 H0) x r) (e : unl r ρ = some (q, ρ')) :
    ∃ S', Rep K H S' σ ρ' ∧ Stp σ0 ρ0 H0 S0 σ ρ' H S' ∧ Tq K H S' σ ρ' (New σ0 ρ0 H0) x q := by
  cases r with
  | v d => cases e; exact ⟨S, R, s, t⟩
  | f d =>
    cases e
    obtain ⟨a, e1, e2, e3, e4⟩ := t
    exact ⟨S, R, s, a, e1, e2, e3, e4, n a e1⟩
  | l i =>
    simp only [unl] at e
    split at e
    · rename_i d ρ1 q1
      cases e
      obtain ⟨S', R', s', hd, _, _⟩ := frz_ok R s (t.tf n) q1
      exact ⟨S', R', s', hd⟩
    · cases e
/-- one more object of a slot is handed on as data: what is at hand stays -/
theorem unl_tm {x y : V} {r q r2 : Rv} (R : Rep K H S σ ρ) (s : Stp σ0 ρ0 H0 S0 σ ρ H S) (t : Tm K H S σ ρ x r) (n : Nw (New σ0 ρ0 H0) x r) (e : unl r ρ = some (q, ρ')) :
    ∃ S', Rep K H S' σ ρ' ∧ Stp σ0 ρ0 H0 S0 σ ρ' H S' ∧ Tq K H S' σ ρ' (New σ0 ρ0 H0) x q ∧ Stp σ ρ H S σ ρ' H S' := by
  cases r with
  | v d => cases e; exact ⟨S, R, s, t, Stp.refl⟩
  | f d =>
    cases e
    obtain ⟨a, e1, e2, e3, e4⟩ := t
    exact ⟨S, R, s, ⟨a, e1, e2, e3, e4, n a e1⟩, Stp.refl⟩
  | l i =>
    simp only [unl] at e
    split at e
    · rename_i d ρ1 q1
      cases e
      simp only [frz] at q1
      split at q1
      · rename_i d' q2
        cases q1
        obtain ⟨v, e1, e2⟩ := R.val i d q2
        rw [show σ[i]? = some (some x) from t] at e1; cases e1
        exact ⟨S, R, s, e2, Stp.refl⟩
      · rename_i d' q2
        cases q1
        obtain ⟨a, e1, e2, e3⟩ := R.own i d q2
        rw [show σ[i]? = some (some x) from t] at e1; cases e1
        obtain ⟨R', hd⟩ := R.frzSlot q2 t
        have st : Stp σ ρ H S σ (ρ.set i (.val d)) H (addS S H a) := by
          refine ⟨fun _ _ h => ⟨_, h⟩, fun _ _ h _ => h, addS_sub R.sub, fun b o z => ?_, fun b z => .inl (own_set z)⟩
          by_cases y : b = a
          · subst y; exact .inr (.inl ⟨i, d, q2, t⟩)
          · rw [addS_ne y] at z; exact .inl ⟨o, z⟩
        exact ⟨_, R', s.trans st, hd, st⟩
      · cases q1
    · cases e
theorem tq_stp {P : Addr → Prop} {x : V} {r : Rv} (s : Stp σ ρ H S σ ρ' H' S') (t : Tq K H S σ ρ P x r) : Tq K H' S' σ ρ' P x r := by
  cases r with
  | v d => exact t.mono s.mono
  | f d =>
    obtain ⟨a, e1, e2, e3, e4, e5⟩ := t
    obtain ⟨o, eo⟩ := e4.there
    exact ⟨a, e1, s.noS' eo e2 e3, s.noO eo e3, e4.mono s.mono fun o' z => s.frame a o' z e3, e5⟩
  | l i => exact t
theorem unl_f {r q : Rv} (e : unl r ρ = some (q, ρ')) (d : D) (h : q = .f d) : r = .f d := by
  subst h
  cases r with
  | v d' => cases e
  | f d' => cases e; rfl
  | l i =>
    simp only [unl] at e
    split at e <;> cases e
theorem unls_apart {x : V} : ∀ {xs : List V} {rs qs : List Rv} {ρ ρ' : DEnv}, unls rs ρ = some (qs, ρ') → Apart x xs rs → Apart x xs qs
  | [], _, _, _, _, _, _ => trivial
  | y :: ys, [], qs, ρ, ρ', e, _ => by cases e; trivial
  | y :: ys, r :: rs, qs, ρ, ρ', e, h => by
    simp only [unls] at e
    split at e
    · rename_i q ρ1 q1
      split at e
      · rename_i ps ρ2 q2
        cases e
        exact ⟨fun ⟨d, hd⟩ => h.1 ⟨d, unl_f q1 d hd⟩, unls_apart q2 h.2⟩
      · cases e
    · cases e
theorem unls_ok : ∀ {xs : List V} {rs qs : List Rv} {S : Hp} {ρ ρ' : DEnv}, Rep K H S σ ρ → Stp σ0 ρ0 H0 S0 σ ρ H S → Tms K H S σ ρ (New σ0 ρ0 H0) xs rs → Aparts xs rs → unls rs ρ = some (qs, ρ') →
    ∃ S', Rep K H S' σ ρ' ∧ Stp σ0 ρ0 H0 S0 σ ρ' H S' ∧ Tqs K H S' σ ρ' (New σ0 ρ0 H0) xs qs ∧ Aparts xs qs ∧ Stp σ ρ H S σ ρ' H S'
  | [], [], qs, S, ρ, ρ', R, s, _, _, e => by cases e; exact ⟨S, R, s, trivial, trivial, Stp.refl⟩
  | x :: xs, r :: rs, qs, S, ρ, ρ', R, s, ⟨a, b, c⟩, ap, e => by
    simp only [unls] at e
    split at e
    · rename_i q ρ1 q1
      split at e
      · rename_i ps ρ2 q2
        cases e
        obtain ⟨S1, R1, s1, t1, st1⟩ := unl_tm (y := x) (r2 := r) R s a b q1
        obtain ⟨S2, R2, s2, t2, ap2, st2⟩ := unls_ok R1 s1 (c.imp (fun _ _ z => z.stay st1) fun _ z => z) ap.2 q2
        exact ⟨S2, R2, s2, ⟨tq_stp st2 t1, t2⟩, ⟨fun ⟨d, hd⟩ => unls_apart q2 (ap.1 ⟨d, unl_f q1 d hd⟩), ap2⟩, st1.trans st2⟩
      · cases e
    · cases e
  | [], _ :: _, _, _, _, _, _, _, h, _, _ => h.elim
  | _ :: _, [], _, _, _, _, _, _, h, _, _ => h.elim
/-- an expression's exception, as a statement's -/
theorem xs_of {fx : Nat → Bool} {D : Ends} {y : Xn} (h : GoodS K mg W fx σ ρ H S (.exc y ρ1) D) : GoodX K mg W σ ρ H S y ρ1 :=
  fun c d H' S' R t i => h c d σ H' S' R t (fun _ _ => rfl) i
end

section
variable {X : Cx} {fx : Nat → Bool} {e c tg : Expr} {es ts : List Expr} {st : Stmt} {sts body orelse : List Stmt} {f : Sm Rv} {as : Sm (List Rv)} {t : Sm Bool} {g h : Sm Fl} {r : Gr} {rs : List Gr} {pos : Pos}
theorem ds_never : PDS X fx st sBad := ⟨fun W _ => PSimp ps_never fun D σ H ⟨S, ρ, R, g⟩ => g.elim⟩
theorem db_never : PDB X fx sts sBad := ⟨fun W _ => PSsimp pss_never fun D σ H ⟨S, ρ, R, g⟩ => g.elim⟩
theorem ds_pass : PDS X fx (.Pass pos) sNx := ⟨fun W _ => PSimp ps_pass fun D σ H ⟨S, ρ, R, g⟩ => g σ H S R Stp.refl fun _ _ => rfl⟩
theorem ds_break : PDS X fx (.Break pos) sBrk := ⟨fun W _ => PSimp ps_break fun D σ H ⟨S, ρ, R, g⟩ => g σ H S R Stp.refl fun _ _ => rfl⟩
theorem ds_cont : PDS X fx (.Continue pos) sCnt := ⟨fun W _ => PSimp ps_continue fun D σ H ⟨S, ρ, R, g⟩ => g σ H S R Stp.refl fun _ _ => rfl⟩
theorem ds_doc {x : Str} {j : Nat} {p : Pos} : PDS X fx (.Expr (.Constant (.str x) j p) pos) sNx := ⟨fun W _ => PSimp ps_doc fun D σ H ⟨S, ρ, R, g⟩ => g σ H S R Stp.refl fun _ _ => rfl⟩
theorem ds_expr (ha : PDE X e f) (hs : swapsWith e none pos.line X.env = pure false) : PDS X fx (.Expr e pos) (sDrop f) := by
  refine ⟨fun W tk => PSimp (ps_expr (ha.run W tk) hs) fun D σ H h => ?_⟩
  obtain ⟨S, ρ, R, g0⟩ := h
  refine tE_bnd (G := fun o => GoodS X.K X.mg W fx σ ρ H S o D) S ρ R g0 (fun _ _ z => xs_of z) (fun z => z) fun r1 ρ1 _ g1 x H1 S1 R1 s1 t1 _ => ?_
  exact g1 σ H1 S1 R1 s1 fun _ _ => rfl
theorem ds_ret (ha : PDE X e f) : PDS X fx (.Return (some e) pos) (sRet fx f) := by
  refine ⟨fun W tk => PSimp (ps_ret (ha.run W tk)) fun D σ H h => ?_⟩
  obtain ⟨S, ρ, R, g0⟩ := h
  refine tE_bnd (G := fun o => GoodS X.K X.mg W fx σ ρ H S o D) S ρ R g0 (fun _ _ z => xs_of z) (fun z => z) fun r1 ρ1 _ g1 x H1 S1 R1 s1 t1 n1 => ?_
  cases r1 with
  | v d => exact g1 σ H1 S1 x R1 s1 (fun _ _ => rfl) t1 n1
  | f d => exact g1 σ H1 S1 x R1 s1 (fun _ _ => rfl) t1 n1
  | l i =>
    dsimp only at g1
    split at g1
    · rename_i d q
      obtain ⟨v, e1, e2⟩ := R1.val i d q
      rw [show σ[i]? = some (some x) from t1] at e1; cases e1
      exact g1 σ H1 S1 x R1 s1 (fun _ _ => rfl) e2 trivial
    · rename_i d q
      obtain ⟨a, e1, e2, e3⟩ := R1.own i d q
      rw [show σ[i]? = some (some x) from t1] at e1; cases e1
      split at g1
      · obtain ⟨S', R', s', hd, _, _⟩ := frz_ok (r := .l i) R1 s1 (t1.tf n1) (show frz (.l i) ρ1 = some (d, ρ1.set i (.val d)) by simp only [frz, q])
        exact g1 σ H1 S' _ R' s' (fun _ _ => rfl) hd trivial
      · -- the slot's object leaves
        have hi : i < ρ1.length := (List.getElem?_eq_some_iff.mp q).1
        have key : ∀ {j : Nat} {c : Cell}, (ρ1.set i .no)[j]? = some c → c ≠ .no → i ≠ j ∧ ρ1[j]? = some c := fun {j c} h hc => by
          by_cases z : i = j
          · subst z; rw [List.getElem?_set_self hi] at h; cases h; exact absurd rfl hc
          · rw [List.getElem?_set_ne z] at h; exact ⟨z, h⟩
        have R' : Rep X.K H1 S1 σ (ρ1.set i .no) := ⟨R1.sub, by rw [List.length_set]; exact R1.len, fun j d h => R1.val j d (key h fun z => nomatch z).2, fun j d h => R1.own j d (key h fun z => nomatch z).2,
          fun j k d e b h1 h2 => R1.inj j k d e b (key h1 fun z => nomatch z).2 (key h2 fun z => nomatch z).2⟩
        have ow : ∀ b, Own σ (ρ1.set i .no) b → Own σ ρ1 b := fun b ⟨j, d, h1, h2⟩ => ⟨j, d, (key h1 fun z => nomatch z).2, h2⟩
        refine g1 σ H1 S1 _ R' (s1.trans (Stp.cells ow)) (fun _ _ => rfl) ⟨a, rfl, e2, fun ⟨j, d', h1, h2⟩ => ?_, e3⟩ fun b eb => ?_
        · obtain ⟨z1, z2⟩ := key h1 fun z => nomatch z
          exact z1 (R1.inj i j d d' a q z2 t1 h2)
        · cases eb
          exact new_adv s1 (.inl ⟨i, d, q, t1⟩)
    · exact g1.elim
theorem ds_retN : PDS X fx (.Return none pos) sRetN := ⟨fun W _ => PSimp ps_retN fun D σ H ⟨S, ρ, R, g⟩ => g σ H S _ R Stp.refl (fun _ _ => rfl) .non trivial⟩
theorem asg_t {W : WX} {D : Ends} {σ : St} {H : Hp} (h : tS X.K X.mg W fx (sAsg r f) D σ H) : tE X.K X.mg W f σ H fun x H1 => tR X.K X.mg W fx r x σ H1 D.nx := by
  obtain ⟨S, ρ, R, g0⟩ := h
  refine tE_bnd (G := fun o => GoodS X.K X.mg W fx σ ρ H S o D) S ρ R g0 (fun _ _ z => xs_of z) (fun z => z) fun r1 ρ1 _ g1 x H1 S1 R1 s1 t1 n1 => ?_
  split at g1
  · rename_i q ρ2 eu
    obtain ⟨S', R', s', tq⟩ := unl_ok R1 s1 t1 n1 eu
    refine ⟨S', ρ2, q, σ, ρ, H, S, R', s', tq, ?_⟩
    cases er : r q ρ2 with
    | ok u ρ3 => rw [er] at g1; exact fun σ' H' S'' R'' s'' f'' _ => g1 σ' H' S'' R'' s'' f''
    | exc y ρ3 => rw [er] at g1; exact fun c d σ' H' S'' R'' s'' f'' i => g1 c d σ' H' S'' R'' s'' f'' i
    | bad => rw [er] at g1; exact g1
  · exact g1.elim
theorem each_one {env : Env} (h : plainTg tg = true) : (assignEach [tg] env).map (·.2) = [assign tg env] := each_cons h
theorem ds_asg (ha : PDE X e f) (hg : PDR X fx tg r) (hs : swapsWithSole [tg] e pos.line X.env = pure false) (hw : swappedStores [tg] e X.env = pure none) (hp : plainTg tg = true) : PDS X fx (.Assign [tg] e pos) (sAsg r f) :=
  ⟨fun W tk => PSimp (ps_asg (ha.run W tk) (hg.run W tk) hs hw (each_one hp)) fun D σ H => asg_t⟩
theorem rN_t {W : WX} {i : Nat} {x : V} {σ : St} {H : Hp} {Q : St → Hp → Prop} (hfx : fx i = false) (h : tR X.K X.mg W fx (rN i) x σ H Q) : gName i x σ H Q := by
  obtain ⟨S, ρ, r, σ0, ρ0, H0, S0, R, s, t, g⟩ := h
  cases r with
  | v d => exact g _ H S (R.setVal t) (s.trans (Stp.slot fun _ z => nomatch z)) (fx_set hfx) (keep_stp (Stp.slot fun _ z => nomatch z))
  | f d =>
    obtain ⟨a, e1, e2, e3, e4, e5⟩ := t
    subst e1
    refine g _ H S (R.setOwn e2 e3 e4) (s.setOwn e5) (fx_set hfx) ⟨Sub.rfl, fun b o h1 h2 h3 h4 => ⟨h1, h2, fun z => ?_⟩⟩
    rcases own_setOwn z with q | q
    · subst q; exact h4 ⟨d, rfl⟩ rfl
    · exact h3 q
  | l j => exact t.elim
/-- name = e, by the compiled store -/
theorem ds_set {i : Nat} {x : Str} {p : Pos} (hN : X.N.Nodup) (hi : X.N[i]? = some x) (hx : Loc X.env.scope x) (hf : X.fn x = true ∨ X.env.scope.names.lookup x = some .local) (hfx : fx i = false) (ha : PDE X e f)
    (hs : swapsWith e (some (.Name x p)) pos.line X.env = pure false) : PDS X fx (.Assign [.Name x p] e pos) (sAsg (rN i) f) :=
  ⟨fun W tk => PSimp (ps_set hN hi hx (ha.run W tk) hs hf) fun D σ H h => by
    obtain ⟨S, ρ, R, q⟩ := asg_t h
    refine ⟨S, ρ, R, ?_⟩
    cases eo : f ρ with
    | ok r ρ1 => rw [eo] at q; exact fun x' H' S' R' s' t' n' => rN_t hfx (q x' H' S' R' s' t' n')
    | exc y ρ1 => rw [eo] at q; exact q
    | bad => rw [eo] at q; exact q⟩
theorem ds_setLc {i : Nat} {y : Str} {py : Pos} {elt iter : Expr} {ifs : List Expr} {scope : Scope} {own : List (Str × Nat)} {spos : Pos} {fi : Sm Src} {g : Gd} {tt : Sm Bool} {te : Sm Rv} (hc : X.calm = true) (hN : X.N.Nodup) (hy : X.N[i]? = some y) (hyl : X.env.scope.names.lookup y = some .local)
    (hfx : fx i = false) (hsw : swapsWith (.ListComp elt [⟨tg, iter, ifs, 0⟩] scope pos) (some (.Name y py)) spos.line X.env = pure true) (hi : PDI X tg iter fi) (ok : BlkOk X.N X.env.scope scope own)
    (hg : ∀ (s : Shared) (H : Hp) (C : Addr) (cl : List (Str × Addr)) (fp : List Addr), PDG (X.blk s H scope (compEnvC scope cl C X.env) fp) (fun i => !(own.map (·.2)).contains i) tg g)
    (ht : ∀ (s : Shared) (H : Hp) (C : Addr) (cl : List (Str × Addr)) (fp : List Addr), PDTs (X.blk s H scope (compEnvC scope cl C X.env) fp) ifs tt)
    (he : ∀ (s : Shared) (H : Hp) (C : Addr) (cl : List (Str × Addr)) (fp : List Addr), PDE (X.blk s H scope (compEnvC scope cl C X.env) fp) elt te) (hs : ∀ x, foldedSetIterable iter X.env x = pure x) :
    PDS X fx (.Assign [.Name y py] (.ListComp elt [⟨tg, iter, ifs, 0⟩] scope pos) spos) (sAsg (rN i) (sLc fi g tt te (own.map (·.2)))) := by
  refine ⟨fun W tk => PSimp (ps_setLc (wi := tI X.K X.mg W fi) (g := tG X.K X.mg WF (fun i => !(own.map (·.2)).contains i) g) (tt := tT X.K X.mg WF tt) (te := tE X.K X.mg WF te) hc hN hy hyl hsw (hi.run W tk) ok (fun s H C cl fp => (hg s H C cl fp).run WF takes_blk) (fun s H C cl fp => (ht s H C cl fp).run WF takes_blk) (fun s H C cl fp => (he s H C cl fp).run WF takes_blk) hs) fun D σ H h => ?_⟩
  have q := asg_t h
  have q2 : tE X.K X.mg W (sLc fi g tt te (own.map (·.2))) σ H fun x H1 => gName i x σ H1 D.nx := by
    obtain ⟨S, ρ, R, q⟩ := q
    refine ⟨S, ρ, R, ?_⟩
    cases eo : sLc fi g tt te (own.map (·.2)) ρ with
    | ok r ρ1 => rw [eo] at q; exact fun x' H' S' R' s' t' n' => rN_t hfx (q x' H' S' R' s' t' n')
    | exc y ρ1 => rw [eo] at q; exact q
    | bad => rw [eo] at q; exact q
  exact lc_t q2
theorem unls_len : ∀ {rs qs : List Rv} {ρ ρ' : DEnv}, unls rs ρ = some (qs, ρ') → qs.length = rs.length
  | [], _, _, _, e => by cases e; rfl
  | r :: rs, _, _, _, e => by
    simp only [unls] at e
    split at e
    · split at e
      · rename_i q2
        cases e
        exact congrArg (· + 1) (unls_len q2)
      · cases e
    · cases e
theorem tms_len {K : PySem.W.Frag} {H S : Hp} {σ : St} {ρ : DEnv} {P : Addr → Prop} : ∀ {xs : List V} {rs : List Rv}, Tms K H S σ ρ P xs rs → xs.length = rs.length
  | [], [], _ => rfl
  | _ :: xs, _ :: rs, ⟨_, _, c⟩ => congrArg (· + 1) (tms_len c)
  | [], _ :: _, h => h.elim
  | _ :: _, [], h => h.elim
theorem tm_heap {K : PySem.W.Frag} {H H' S : Hp} {σ : St} {ρ : DEnv} {x : V} {r : Rv} (h : Sub H H') (t : Tm K H S σ ρ x r) : Tm K H' S σ ρ x r := by
  cases r with
  | v d => exact t
  | f d =>
    obtain ⟨a, e1, e2, e3, e4⟩ := t
    exact ⟨a, e1, e2, e3, e4.mono Sub.rfl fun o z => h a o z⟩
  | l i => exact t
/-- a, .. = x, .. by a tuple that is laid and taken apart -/
theorem ds_asgs {k k2 : Nat} {p1 p2 : Pos} (hc : X.calm = true) (ha : PDA X es as) (hg : PDRs X fx ts rs) (hs : swapsWithSole [.Tuple ts k p1] (.Tuple es k2 p2) pos.line X.env = pure false) (hw : swappedStores [.Tuple ts k p1] (.Tuple es k2 p2) X.env = pure none) :
    PDS X fx (.Assign [.Tuple ts k p1] (.Tuple es k2 p2) pos) (sAsgs rs as) := by
  refine ⟨fun W tk => PSimp (ps_asg (pe_tup (ha.run W tk)) (pg_tup hc (hg.run W tk) (each_len.trans hg.len) (each_nostar hg.plain)) hs hw (each_one rfl)) fun D σ H h => ?_⟩
  obtain ⟨S, ρ, R, g0⟩ := h
  refine tA_bnd (G := fun o => GoodS X.K X.mg W fx σ ρ H S o D) S ρ R g0 (fun _ _ z => xs_of z) (fun z => z) fun qs ρ1 _ g1 xs H1 S1 R1 s1 t1 ap => ?_
  split at g1
  · rename_i us ρ2 eu
    split at g1
    · rename_i hz
      have hl := unls_len eu
      have hx := tms_len t1
      refine ⟨by rw [hx, ← hl]; exact small_le hz.1, fun p hp => ⟨p, xs, rfl, .inl (.inl upd_same), by rw [hx, ← hl]; exact hz.2.symm, ?_⟩⟩
      have sub := sub_upd (o := HO.tup xs) hp
      have R2 := R1.heap sub
      have s2 := s1.trans (Stp.alloc (o := HO.tup xs) hp)
      obtain ⟨S', R', s', tq, ap', _⟩ := unls_ok R2 s2 (t1.imp (fun _ _ z => tm_heap sub z) fun _ z => z) ap eu
      refine ⟨S', ρ2, us, σ, ρ, H, S, R', s', tq, ap', ?_⟩
      cases er : rGo rs us ρ2 with
      | ok u ρ3 => rw [er] at g1; exact fun σ' H' S'' R'' s'' f'' _ => g1 σ' H' S'' R'' s'' f''
      | exc y ρ3 => rw [er] at g1; exact fun c d σ' H' S'' R'' s'' f'' i => g1 c d σ' H' S'' R'' s'' f'' i
      | bad => rw [er] at g1; exact g1
    · exact g1.elim
  · exact g1.elim
end
end L2.DL

/-! D layer, part 14: stores of two and three names, branches, blocks, loops -/
namespace L2.DL
open PySem PySem.Spec PyProof.Rows L2

def sFrz (f : Sm Rv) : Sm Rv := fun ρ => bnd (f ρ) fun r ρ1 => match frz r ρ1 with
  | some (d, ρ2) => .ok (.v d) ρ2
  | none => .bad
def whGo (t : Sm Bool) (body : Sm Fl) : Nat → Sm Fl
  | 0 => fun _ => .bad
  | n + 1 => fun ρ => bnd (t ρ) fun b ρ1 => if b = true then bnd (body ρ1) fun r ρ2 => match r with
      | .nx => whGo t body n ρ2
      | .cnt => whGo t body n ρ2
      | .brk => .ok .nx ρ2
      | .ret r => .ok (.ret r) ρ2
    else .ok .nx ρ1
noncomputable def fuel : Nat := if cd True = true then 2 ^ 70 else 0
theorem fuel_big : 1000000000000000000 < fuel := by
  unfold fuel
  rw [if_pos cd_T]
  omega
noncomputable def forGo (src : Option (Nat × D)) (tg : Gd) (body : Sm Fl) : List D → Sm Fl
  | [] => fun ρ => if srcChk [] ρ src = true then .ok .nx ρ else .bad
  | d :: ds => fun ρ => if srcChk [] ρ src = true then bnd (tg d ρ) fun _ ρ1 => bnd (body ρ1) fun r ρ2 => match r with
      | .nx => forGo src tg body ds ρ2
      | .cnt => forGo src tg body ds ρ2
      | .brk => .ok .nx ρ2
      | .ret r => .ok (.ret r) ρ2
    else .bad
def srcFx (fx : Nat → Bool) : Option (Nat × D) → Bool
  | none => true
  | some (i, _) => fx i
noncomputable def sFor (fxL : Nat → Bool) (it : Sm Src) (tg : Gd) (body : Sm Fl) : Sm Fl := fun ρ => bnd (it ρ) fun s ρ1 =>
  if srcFx fxL s.2 = true then forGo s.2 tg body s.1 ρ1 else .bad

section
variable {K : PySem.W.Frag} {mg : MG} {W : WX} {σ σ0 σ' : St} {ρ ρ0 ρ1 ρ' : DEnv} {H S H0 S0 H1 S1 H' S' : Hp}
theorem rN_ok {i : Nat} {x : V} {q : Rv} (R : Rep K H S σ ρ) (s : Stp σ0 ρ0 H0 S0 σ ρ H S) (t : Tq K H S σ ρ (New σ0 ρ0 H0) x q) : ∃ ρ', rN i q ρ = .ok () ρ' ∧ Rep K H S (σ.set i (some x)) ρ' ∧ Stp σ0 ρ0 H0 S0 (σ.set i (some x)) ρ' H S ∧ Keep σ ρ H S x q (σ.set i (some x)) ρ' H S := by
  cases q with
  | v d => exact ⟨_, rfl, R.setVal t, s.trans (Stp.slot fun _ z => nomatch z), keep_stp (Stp.slot fun _ z => nomatch z)⟩
  | f d =>
    obtain ⟨a, e1, e2, e3, e4, e5⟩ := t
    subst e1
    refine ⟨_, rfl, R.setOwn e2 e3 e4, s.setOwn e5, Sub.rfl, fun b o h1 h2 h3 h4 => ⟨h1, h2, fun z => ?_⟩⟩
    rcases own_setOwn z with q | q
    · subst q; exact h4 ⟨d, rfl⟩ rfl
    · exact h3 q
  | l j => exact t.elim
end
section
variable {X : Cx} {fx fxL : Nat → Bool} {e c tg iter a b : Expr} {es ts : List Expr} {st : Stmt} {sts body orelse : List Stmt} {f : Sm Rv} {as : Sm (List Rv)} {t : Sm Bool} {g h : Sm Fl} {r : Gr} {rs : List Gr} {pos : Pos}
theorem de_frz (ha : PDE X e f) : PDE X e (sFrz f) := by
  refine ⟨fun W tk => PEimp (ha.run W tk) fun σ H Q h => ?_⟩
  obtain ⟨S, ρ, R, g0⟩ := h
  refine tE_bnd (G := fun o => GoodE X.K X.mg W σ ρ H S o Q) S ρ R g0 (fun _ _ z => z) (fun z => z) fun r1 ρ1 _ g1 x H1 S1 R1 s1 t1 n1 => ?_
  split at g1
  · rename_i d ρ2 ef
    obtain ⟨S', R', s', hd, _, _⟩ := frz_ok R1 s1 (t1.tf n1) ef
    exact g1 x H1 S' R' s' hd trivial
  · exact g1.elim
theorem par_t {is : List Nat} {W : WX} {D : Ends} {σ : St} {H : Hp} (hfx : ∀ i ∈ is, fx i = false) (hw : tS X.K X.mg W fx (sAsgs (is.map rN) as) D σ H) :
    tA X.K X.mg W as σ H fun xs H1 => xs.length = is.length ∧ D.nx ((is.zip xs).foldl (fun σ p => σ.set p.1 (some p.2)) σ) H1 := by
  obtain ⟨S, ρ, R, g0⟩ := hw
  refine tA_bnd (G := fun o => GoodS X.K X.mg W fx σ ρ H S o D) S ρ R g0 (fun _ _ z => xs_of z) (fun z => z) fun qs ρ1 _ g1 xs H1 S1 R1 s1 t1 ap => ?_
  split at g1
  · rename_i us ρ2 eu
    split at g1
    · rename_i hz
      have hl := unls_len eu
      have hx := tms_len t1
      obtain ⟨S', R', s', tq, ap', _⟩ := unls_ok R1 s1 t1 ap eu
      refine ⟨by rw [hx, ← hl, ← hz.2, List.length_map], ?_⟩
      -- the stores, one after another
      have go : ∀ (is : List Nat) (xs : List V) (us : List Rv) (σ2 : St) (ρ2 : DEnv), (∀ i ∈ is, fx i = false) → (∀ i, fx i = true → σ2[i]? = σ[i]?) → Rep X.K H1 S' σ2 ρ2 → Stp σ ρ H S σ2 ρ2 H1 S' → Tqs X.K H1 S' σ2 ρ2 (New σ ρ H) xs us → Aparts xs us →
          GoodS X.K X.mg W fx σ ρ H S (bnd (rGo (is.map rN) us ρ2) fun _ ρ3 => .ok .nx ρ3) D → D.nx ((is.zip xs).foldl (fun σ p => σ.set p.1 (some p.2)) σ2) H1 := by
        intro is
        induction is with
        | nil =>
          intro xs us σ2 ρ2 _ hf R2 s2 tq ap g
          cases us with
          | nil =>
            cases xs with
            | nil => exact g σ2 H1 S' R2 s2 hf
            | cons _ _ => exact tq.elim
          | cons _ _ => exact g.elim
        | cons i is ih =>
          intro xs us σ2 ρ2 hi hf R2 s2 tq ap g
          cases us with
          | nil => exact g.elim
          | cons u us =>
            cases xs with
            | nil => exact tq.elim
            | cons x xs =>
              obtain ⟨ρ3, er, R3, s3, k3⟩ := rN_ok (i := i) R2 s2 tq.1
              have g : GoodS X.K X.mg W fx σ ρ H S (bnd (bnd (rN i u ρ2) fun _ ρ1 => rGo (is.map rN) us ρ1) fun _ ρ3 => .ok .nx ρ3) D := g
              rw [er] at g
              exact ih xs us _ ρ3 (fun j hj => hi j (List.mem_cons_of_mem _ hj)) (fun j hj => (fx_set (hi i List.mem_cons_self) j hj).trans (hf j hj)) R3 s3 (tq.2.stay k3 ap.1) ap.2 g
      exact go is xs us σ ρ2 hfx (fun _ _ => rfl) R' s' tq ap' g1
    · exact g1.elim
  · exact g1.elim
/-- a, b = x, y with plain local names -/
theorem ds_par {i j : Nat} {x y : Str} {px py pt : Pos} {kt k2 pt2} (hc : X.calm = true) (hN : X.N.Nodup) (hi : X.N[i]? = some x) (hj : X.N[j]? = some y) (hij : i ≠ j) (hx : X.env.scope.names.lookup x = some .local) (hy : X.env.scope.names.lookup y = some .local)
    (hfi : fx i = false) (hfj : fx j = false) (ha : PDA X [a, b] as) (hw : swappedStores [.Tuple [.Name x px, .Name y py] kt pt] (.Tuple [a, b] k2 pt2) X.env = pure (some [x, y])) :
    PDS X fx (.Assign [.Tuple [.Name x px, .Name y py] kt pt] (.Tuple [a, b] k2 pt2) pos) (sAsgs ([i, j].map rN) as) := by
  refine ⟨fun W tk => PSimp (ps_par hc hN hi hj hij hx hy (ha.run W tk) hw) fun D σ H h => ?_⟩
  obtain ⟨S, ρ, R, q⟩ := par_t (is := [i, j]) (by intro k hk; rcases List.mem_cons.mp hk with z | hk; exact z ▸ hfi; rcases List.mem_cons.mp hk with z | hk; exact z ▸ hfj; cases hk) h
  refine ⟨S, ρ, R, ?_⟩
  cases eo : as ρ with
  | ok rs ρ1 =>
    rw [eo] at q
    intro xs H' S' R' s' t' ap
    obtain ⟨hl, n⟩ := q xs H' S' R' s' t' ap
    match xs, hl, n with
    | [v, w], _, n => exact ⟨v, w, rfl, n⟩
  | exc z ρ1 => rw [eo] at q; exact q
  | bad => rw [eo] at q; exact q
theorem ds_par3 {i j l : Nat} {x y z : Str} {px py pz pt : Pos} {kt k2 pt2} {d : Expr} (hc : X.calm = true) (hN : X.N.Nodup) (hi : X.N[i]? = some x) (hj : X.N[j]? = some y) (hl : X.N[l]? = some z) (hij : i ≠ j) (hil : i ≠ l) (hjl : j ≠ l)
    (hx : X.env.scope.names.lookup x = some .local) (hy : X.env.scope.names.lookup y = some .local) (hz : X.env.scope.names.lookup z = some .local)
    (hfi : fx i = false) (hfj : fx j = false) (hfl : fx l = false) (ha : PDA X [a, b, d] as) (hw : swappedStores [.Tuple [.Name x px, .Name y py, .Name z pz] kt pt] (.Tuple [a, b, d] k2 pt2) X.env = pure (some [x, y, z])) :
    PDS X fx (.Assign [.Tuple [.Name x px, .Name y py, .Name z pz] kt pt] (.Tuple [a, b, d] k2 pt2) pos) (sAsgs ([i, j, l].map rN) as) := by
  refine ⟨fun W tk => PSimp (ps_par3 hc hN hi hj hl hij hil hjl hx hy hz (ha.run W tk) hw) fun D σ H h => ?_⟩
  obtain ⟨S, ρ, R, q⟩ := par_t (is := [i, j, l]) (by intro k hk; rcases List.mem_cons.mp hk with z | hk; exact z ▸ hfi; rcases List.mem_cons.mp hk with z | hk; exact z ▸ hfj; rcases List.mem_cons.mp hk with z | hk; exact z ▸ hfl; cases hk) h
  refine ⟨S, ρ, R, ?_⟩
  cases eo : as ρ with
  | ok rs ρ1 =>
    rw [eo] at q
    intro xs H' S' R' s' t' ap
    obtain ⟨hl, n⟩ := q xs H' S' R' s' t' ap
    match xs, hl, n with
    | [u, v, w], _, n => exact ⟨u, v, w, rfl, n⟩
  | exc z ρ1 => rw [eo] at q; exact q
  | bad => rw [eo] at q; exact q
/-- name op= e, of a number -/
theorem ds_aug {i : Nat} {x : Str} {o : Operator} {op : Op2} {p : Pos} (hN : X.N.Nodup) (hi : X.N[i]? = some x) (hx : Loc X.env.scope x) (hf : X.fn x = true ∨ X.env.scope.names.lookup x = some .local) (hfx : fx i = false) (ho : Sd2 X (inplaceOp o) op) (ha : PDE X e f) :
    PDS X fx (.AugAssign (.Name x p) o e pos) (sAug i op f) := by
  obtain ⟨r, h1, h2⟩ := ho
  have hp : PIp X o (fun x y H Q => r x y H Q) := fun pins s σ H x y v u Q I rx ry q => h1 pins s σ H x y v u Q I rx ry q
  refine ⟨fun W tk => PSimp (ps_aug hN hi hx (ha.run W tk) hp hf) fun D σ H h => ?_⟩
  obtain ⟨S, ρ, R, g0⟩ := h
  unfold sAug at g0
  split at g0
  · rename_i d ed
    obtain ⟨v, e1, e2⟩ := R.val i d ed
    refine ⟨v, e1, ?_⟩
    refine tE_bnd (G := fun o => GoodS X.K X.mg W fx σ ρ H S o D) S ρ R g0 (fun _ _ z => xs_of z) (fun z => z) fun r1 ρ1 _ g1 y H1 S1 R1 s1 t1 n1 => ?_
    split at g1
    · rename_i k ek
      split at g1
      · rename_i z ez
        refine h2 (W := W) R1 (.inl (e2.mono s1.mono)) (t1.top R1 ek) ez (Q := fun z H2 => D.nx (σ.set i (some z)) H2) fun z H2 S2 R2 s2 t2 _ => ?_
        exact g1 _ H2 S2 (R2.setVal t2) ((s1.trans s2).trans (Stp.slot fun _ z => nomatch z)) (fx_set hfx)
      · exact g1.elim
    · exact g1.elim
  · exact g0.elim

/-! ### blocks, branches -/
theorem db_nil : PDB X fx [] sNx := ⟨fun W _ => PSsimp pss_nil fun D σ H ⟨S, ρ, R, g⟩ => g σ H S R Stp.refl fun _ _ => rfl⟩
theorem db_one (hs : PDS X fx st g) : PDB X fx [st] g := ⟨fun W tk => pss_one (hs.run W tk)⟩
theorem db_cons (hs : PDS X fx st g) (hb : PDB X fx sts h) : PDB X fx (st :: sts) (sSeq g h) := by
  refine ⟨fun W tk => PSsimp (pss_cons (hs.run W tk) (hb.run W tk)) fun D σ H hw => ?_⟩
  obtain ⟨S, ρ, R, g0⟩ := hw
  refine ⟨S, ρ, R, ?_⟩
  have g0 : GoodS X.K X.mg W fx σ ρ H S (bnd (g ρ) fun r ρ1 => match r with
    | .nx => h ρ1
    | r => .ok r ρ1) D := g0
  cases eg : g ρ with
  | bad => rw [eg] at g0; exact g0
  | exc y ρ1 => rw [eg] at g0; exact g0
  | ok r ρ1 =>
    rw [eg] at g0
    cases r with
    | nx => exact fun σ' H' S' R' s' f' => ⟨S', ρ1, R', GoodS.adv s' f' g0⟩
    | brk => exact g0
    | cnt => exact g0
    | ret r => exact g0
theorem xt_of {W : WX} {σ : St} {ρ ρ1 : DEnv} {H S : Hp} {D : Ends} {y : Xn} (h : GoodS X.K X.mg W fx σ ρ H S (.exc y ρ1) D) : GoodX X.K X.mg W σ ρ H S y ρ1 := xs_of h
theorem ds_if (hc : PDT X c t) (ha : PDB X fx body g) (hb : PDB X fx orelse h) : PDS X fx (.If c body orelse pos) (sIfS t g h) := by
  refine ⟨fun W tk => PSimp (ps_if (hc.run W tk) (ha.run W tk) (hb.run W tk)) fun D σ H hw => ?_⟩
  obtain ⟨S, ρ, R, g0⟩ := hw
  refine tT_bnd (G := fun o => GoodS X.K X.mg W fx σ ρ H S o D) S ρ R g0 (fun _ _ z => xt_of z) (fun z => z) fun b ρ1 _ g1 H1 S1 R1 s1 => ?_
  have g1 := GoodS.adv s1 (fun _ _ => rfl) g1
  cases b with
  | true => exact ⟨S1, ρ1, R1, g1⟩
  | false => exact ⟨S1, ρ1, R1, g1⟩
theorem ds_while {n : Nat} (hp : PassesOwn (model X.prog X.w) X.A X.env X.xe) (hc : PDT X c t) (hb : PDB X fx body g) : PDS X fx (.While c body [] pos) (whGo t g n) := by
  refine ⟨fun W tk => PSimp (ps_while hp (hc.run W tk) (hb.run W tk)) fun D σ H hw => ?_⟩
  obtain ⟨S, ρ, R, g0⟩ := hw
  refine ⟨fun m σ1 H1 => ∃ S1 ρ1, Rep X.K H1 S1 σ1 ρ1 ∧ GoodS X.K X.mg W fx σ1 ρ1 H1 S1 (whGo t g m ρ1) D, ⟨n, S, ρ, R, g0⟩, ?_⟩
  rintro m σ1 H1 ⟨S1, ρ1, R1, g1⟩
  cases m with
  | zero => exact g1.elim
  | succ m =>
    refine tT_bnd (G := fun o => GoodS X.K X.mg W fx σ1 ρ1 H1 S1 o D) S1 ρ1 R1 g1 (fun _ _ z => xt_of z) (fun z => z) fun b ρ2 _ g2 H2 S2 R2 s2 => ?_
    have g2 := GoodS.adv s2 (fun _ _ => rfl) g2
    cases b with
    | false => exact g2 σ1 H2 S2 R2 Stp.refl fun _ _ => rfl
    | true =>
      rw [if_pos rfl] at g2 ⊢
      refine ⟨fun σ' H' => ∃ S1 ρ1, Rep X.K H' S1 σ' ρ1 ∧ GoodS X.K X.mg W fx σ' ρ1 H' S1 (whGo t g m ρ1) D, fun σ' H' hn => ⟨m, Nat.lt_succ_self m, hn⟩, S2, ρ2, R2, ?_⟩
      cases eg : g ρ2 with
      | bad => rw [eg] at g2; exact g2
      | exc y ρ3 => rw [eg] at g2; exact g2
      | ok r ρ3 =>
        rw [eg] at g2
        cases r with
        | nx => exact fun σ' H' S' R' s' f' => ⟨S', ρ3, R', GoodS.adv s' f' g2⟩
        | cnt => exact fun σ' H' S' R' s' f' => ⟨S', ρ3, R', GoodS.adv s' f' g2⟩
        | brk => exact g2
        | ret r => exact g2
theorem srcOk_nil {σ σ2 : St} {ρ : DEnv} {src : Option (Nat × D)} (h : srcChk [] ρ src = true) (hx : srcFx fxL src = true) (hf : ∀ i, fxL i = true → σ2[i]? = σ[i]?) : SrcOk σ σ2 ρ src := by
  have q := srcOk_of (σ := σ) h
  cases src with
  | none => trivial
  | some p => exact ⟨hf _ hx, q.2⟩
theorem goodS_fx {W : WX} {σ : St} {ρ : DEnv} {H S : Hp} {o : Out Fl} {D : Ends} (hle : ∀ i, fx i = true → fxL i = true) (h : GoodS X.K X.mg W fx σ ρ H S o D) : GoodS X.K X.mg W fxL σ ρ H S o D := by
  cases o with
  | ok r ρ' =>
    cases r with
    | nx => exact fun σ' H' S' R t f => h σ' H' S' R t fun i e => f i (hle i e)
    | brk => exact fun σ' H' S' R t f => h σ' H' S' R t fun i e => f i (hle i e)
    | cnt => exact fun σ' H' S' R t f => h σ' H' S' R t fun i e => f i (hle i e)
    | ret r => exact fun σ' H' S' x R t f m n => h σ' H' S' x R t (fun i e => f i (hle i e)) m n
  | exc x ρ' => exact fun c d σ' H' S' R t f i => h c d σ' H' S' R t (fun i e => f i (hle i e)) i
  | bad => exact h
theorem ds_for {fi : Sm Src} {g' : Gd} (hp : PassesOwn (model X.prog X.w) X.A X.env X.xe) (hc : X.calm = true) (hle : ∀ i, fx i = true → fxL i = true) (hi : PDI X tg iter fi) (hg : PDG X fxL tg g') (hb : PDB X fxL body g)
    (hs : ∀ x, foldedSetIterable iter X.env x = pure x) : PDS X fx (.For tg iter body [] pos) (sFor fxL fi g' g) := by
  refine ⟨fun W tk => PSimp (ps_for hp hc (hi.run W tk) (hg.run W tk) (hb.run W tk) hs) fun D σ H hw => ?_⟩
  obtain ⟨S, ρ, R, g0⟩ := hw
  have xi : ∀ y ρ1, GoodS X.K X.mg W fx σ ρ H S (.exc y ρ1) D → GoodX X.K X.mg W σ ρ H S y ρ1 := fun _ _ z => xt_of z
  refine tI_bnd (G := fun o => GoodS X.K X.mg W fx σ ρ H S o D) S ρ R g0 xi (fun z => z) fun it ρ1 _ g1 J H1 S1 R1 s1 io => ?_
  have g1 := GoodS.adv s1 (fun _ _ => rfl) g1
  obtain ⟨items, src⟩ := it
  split at g1
  · rename_i hfx
    refine ⟨fun i m σ2 H2 => m = items.length - i ∧ i ≤ items.length ∧ ∃ S2 ρ2, Rep X.K H2 S2 σ2 ρ2 ∧ Sub S1 S2 ∧ (∀ j, fxL j = true → σ2[j]? = σ[j]?) ∧ GoodS X.K X.mg W fx σ2 ρ2 H2 S2 (forGo src g' g (items.drop i) ρ2) D,
      ⟨items.length, by simp, Nat.zero_le _, S1, ρ1, R1, Sub.rfl, fun _ _ => rfl, by simpa using g1⟩, ?_⟩
    rintro i m σ2 H2 ⟨rfl, hi, S2, ρ2, R2, sub2, f2, g2⟩
    by_cases hlt : i < items.length
    · rw [List.drop_eq_getElem_cons hlt] at g2
      unfold forGo at g2
      split at g2
      · rename_i hchk
        obtain ⟨jgo, jy⟩ := (io H2 S2 σ2 ρ2 R2 sub2 (srcOk_nil hchk hfx f2)).1 i items[i] (List.getElem?_eq_getElem hlt)
        refine .inr ⟨jgo, fun σ' H' => i + 1 ≤ items.length ∧ ∃ S2 ρ2, Rep X.K H' S2 σ' ρ2 ∧ Sub S1 S2 ∧ (∀ j, fxL j = true → σ'[j]? = σ[j]?) ∧ GoodS X.K X.mg W fx σ' ρ2 H' S2 (forGo src g' g (items.drop (i + 1)) ρ2) D,
          fun σ' H' hn => ⟨items.length - (i + 1), by omega, rfl, hn.1, hn.2⟩, fun x H3 hy => ?_⟩
        obtain ⟨S3, R3, s3, d3⟩ := jy x H3 hy
        have g3 := goodS_fx hle (GoodS.adv s3 (fun _ _ => rfl) g2)
        refine ⟨S3, ρ2, items[i], R3, d3, ?_⟩
        cases eg : g' items[i] ρ2 with
        | bad => rw [eg] at g3; exact g3
        | exc y ρ4 => rw [eg] at g3; exact g3
        | ok u ρ4 =>
          rw [eg] at g3 g2
          intro σ4 H4 S4 R4 s4 f4 l4
          have s24 := s3.trans s4
          have f24 : ∀ j, fxL j = true → σ4[j]? = σ2[j]? := f4
          have g4 := GoodS.adv s4 f4 g3
          have h4 := GoodS.adv s24 (fun j hj => f4 j (hle j hj)) g2
          dsimp only [bnd] at g4 h4
          refine ⟨S4, ρ4, R4, ?_⟩
          cases eb : g ρ4 with
          | bad => rw [eb] at g4; exact g4
          | exc y ρ5 => rw [eb] at g4; exact g4
          | ok r ρ5 =>
            rw [eb] at g4 h4
            cases r with
            | nx => exact fun σ' H' S' R' s' f' => ⟨hlt, S', ρ5, R', fun b o z => s'.mono b o (s24.mono b o (sub2 b o z)), fun j hj => (f' j hj).trans ((f24 j hj).trans (f2 j hj)), GoodS.adv s' (fun j hj => f' j (hle j hj)) h4⟩
            | cnt => exact fun σ' H' S' R' s' f' => ⟨hlt, S', ρ5, R', fun b o z => s'.mono b o (s24.mono b o (sub2 b o z)), fun j hj => (f' j hj).trans ((f24 j hj).trans (f2 j hj)), GoodS.adv s' (fun j hj => f' j (hle j hj)) h4⟩
            | brk => exact g4
            | ret r => exact g4
      · exact g2.elim
    · have e : i = items.length := by omega
      subst e
      rw [List.drop_length] at g2
      unfold forGo at g2
      split at g2
      · rename_i hchk
        exact .inl ⟨(io H2 S2 σ2 ρ2 R2 sub2 (srcOk_nil hchk hfx f2)).2, g2 σ2 H2 S2 R2 Stp.refl fun _ _ => rfl⟩
      · exact g2.elim
  · exact g1.elim
end
end L2.DL

/-! D layer, part 15: list(reversed(x)) -/
namespace L2.DL
open PySem PySem.Spec PyProof.Rows L2

section
variable {prog : Program} {w : World} {A : Around} {E : Value → Shared → Prop} {s : Shared}
theorem call_list_rev {it l : Addr} {items : Array Value} {Q : Value → Shared → Prop} (hh : A.handled = none) (hit : s.heap.IsRevIter it l ((items.size : Int) - 1)) (hl : s.heap.IsList l items) (hne : l ≠ it) (hn : items.size ≤ sizeLine)
    (hQ : ∀ (h' : Heap) (tk : Nat) (acc : Array Value) (c : Nat), (∀ b o, b ≠ it → s.heap.get? b = some o → h'.get? b = some o) → h'.get? s.heap.objs.size = some { cls := .type "list", dict := none, data := .seq acc c, slots := #[] } →
      ItemsOf (fun i v => items[items.size - 1 - i]? = some v) acc items.size → Q (.ref s.heap.objs.size) { s with heap := h', toks := tk }) :
    wpAny (model prog w) A (call (.type "list") [.ref it]) Q E s := by
  have W := (Walks.listRev (prog := prog) (w := w) (A := A.in1.in1) hh it l hne items).toS
  obtain ⟨oi, hoi, _⟩ := id hit
  obtain ⟨ol, hol, _⟩ := id hl
  have hSi : s.heap.objs.size ≠ it := Nat.ne_of_gt (Heap.lt_size hoi)
  have hSl : s.heap.objs.size ≠ l := Nat.ne_of_gt (Heap.lt_size hol)
  have hSf : s.heap.objs.size ∉ [it, l] := by simp only [List.mem_cons, List.not_mem_nil, or_false, not_or]; exact ⟨hSi, hSl⟩
  refine callType_codes (Q₁ := fun obj s₁ => obj = .ref s.heap.objs.size ∧ s₁ = { s with heap := s.heap.push { cls := .type "list", data := .seq #[] } }) F.called_list (F.typeCall_list_1 _) F.entry_list_init
    (code_list_new _ ⟨rfl, rfl⟩) fun obj s₁ h₁ => ?_
  obtain ⟨rfl, rfl⟩ := h₁
  have hS : (s.heap.push { cls := .type "list", data := .seq #[] }).get? s.heap.objs.size = some { cls := .type "list", data := .seq #[] } := Heap.get?_push_size _ rfl
  refine ⟨⟨_, hS, rfl⟩, F.args_list_init_2 _ _, ?_⟩
  show wpAny _ A.in1.in1 (do let old ← Builtin.List.listItems (.ref s.heap.objs.size); Builtin.List.listUpdate (.ref s.heap.objs.size) (fun _ => #[]); letGo old.toList.reverse; Builtin.List.listExtendWith (.ref s.heap.objs.size) (.ref it) .none) _ _ _
  refine wpAny_bind ?_
  unfold Builtin.List.listItems
  refine wpAny_bind (wpAny_seqItems hS rfl (wpAny_pure ?_))
  show wpAny _ A.in1.in1 (updateSeq s.heap.objs.size (fun _ => #[]) >>= fun _ => letGo (#[] : Array Value).toList.reverse >>= fun _ => Builtin.List.listExtendWith (.ref s.heap.objs.size) (.ref it) .none) _ _ _
  refine wpAny_bind (wpAny_updateSeq hS rfl ?_)
  have hS2 := Heap.get?_update_self (Obj.mapSeq (fun _ => (#[] : Array Value))) hS rfl
  refine wpAny_bind (wpAny_letGo ?_)
  have k2 : ∀ b o, s.heap.get? b = some o → ((s.heap.push { cls := .type "list", data := .seq #[] }).update s.heap.objs.size (Obj.mapSeq (fun _ => (#[] : Array Value)))).get? b = some o := fun b o e =>
    (Heap.get?_update_other _ _ (Ne.symm (Nat.ne_of_lt (Heap.lt_size e)))).trans (Heap.get?_push_of_some _ e)
  generalize hG : (s.heap.push { cls := .type "list", data := .seq #[] }).update s.heap.objs.size (Obj.mapSeq (fun _ => (#[] : Array Value))) = G at k2 hS2 ⊢
  have hit1 : G.IsRevIter it l ((items.size : Int) - 1) := hit.at fun o e => k2 _ _ e
  have hl1 : G.IsList l items := by
    obtain ⟨o, ho, hc, n, hd⟩ := hl
    exact ⟨o, k2 _ _ ho, hc, n, hd⟩
  have hT : ({ s with heap := G } : Shared).TypeIs (.ref it) "list_reverseiterator" := Heap.IsRevIter.typeIs (s := { s with heap := G }) hit1
  have h1 : Builtin.List.listSameRef (.ref s.heap.objs.size) (.ref it) = false := by simp [Builtin.List.listSameRef, hSi]
  unfold Builtin.List.listExtendWith
  refine wpAny_bind (wpAny_typeOf hT ?_)
  rw [if_neg (by rw [h1]; decide)]
  refine wpAny_bind (wpAny_pyIter_revIter (s := { s with heap := G }) hit1 ?_)
  refine wpAny_bind (wpAny_holding ?_)
  unfold Builtin.List.listLengthHint
  refine wpAny_bind (wpAny_specialOf hT RT.nolen_lri ?_)
  show wpAny _ A.in1.in1 (specialOf (Value.ref it) (Str.ofString "__length_hint__") >>= _) _ _ _
  refine wpAny_bind (wpAny_specialOf hT RT.hint_lri ?_)
  generalize hid : ("list_reverseiterator.__length_hint__" : String) = id0
  wp_delta
  rw [show splitId id0 = some ("list_reverseiterator", "__length_hint__") from by subst hid; decide +kernel]
  subst hid
  refine wpAny_bind (wpAny_isInstance (b := true) hT (by rw [isSubtype_type]; kernel_rfl) ?_)
  refine wpAny_pure ?_
  rw [if_neg (by decide)]
  have e0 : ((items.size : Nat) : Int) - 1 - ((0 : Nat) : Int) = (items.size : Int) - 1 := by omega
  refine wpAny_pure ⟨plainId_quiet F.plain_extend_loop _, codeAny_extend_loopS W hn _ hSf _ items.size 0 _ _ _ rfl (Nat.zero_le _) ⟨Nat.zero_le _, by rw [e0]; exact hit1, hl1⟩ hS2 (ItemsOf.nil _) fun s' acc' c' hm hS' hacc => ?_⟩
  refine ⟨rfl, ?_⟩
  rw [Moved.eq_with hm]
  refine hQ s'.heap s'.toks acc' c' (fun b o hb e => hm.heap b o (fun hmem => ?_) (k2 _ _ e)) hS' hacc
  rcases List.mem_cons.mp hmem with e' | hmem
  · exact absurd (Heap.lt_size e) (by rw [e']; exact Nat.lt_irrefl _)
  · exact hb (List.mem_singleton.mp hmem)
end
section
variable {X : Cx}
def tLstRev (K : PySem.W.Frag) (te : TE) : TE := fun σ H Q => te σ H fun v H1 => ∃ (a : Addr) (xs : List V), v = .ref a ∧ SqL K H1 a xs ∧ ∀ q, H1 q = none → Q (.ref q) (upd H1 q (.lst xs.reverse))
theorem pe_lstRev {e : Expr} {te : TE} {p p2 pos pos2 : Pos} (hc : X.calm = true) (hg : Gl X "list") (hm : X.mg "list" = none) (hg2 : Gl X "reversed") (hm2 : X.mg "reversed" = none) (he : PE X e te)
    (hs : starEach [e] X.env = (false, eval e X.env) :: starEach [] X.env)
    (hs2 : starEach [.Call (.Name "reversed" p2) [e] [] pos2] X.env = (false, eval (.Call (.Name "reversed" p2) [e] [] pos2) X.env) :: starEach [] X.env := by rfl) :
    PE X (.Call (.Name "list" p) [.Call (.Name "reversed" p2) [e] [] pos2] [] pos) (tLstRev X.K te) := by
  refine ⟨fun pins s σ H Q I h => ?_⟩
  refine Call_ (ld_blt I hg hm boot_list (PyProof.Rows.callWith_type1 (args_cons (Call_ (ld_blt I hg2 hm2 PyProof.Rows.boot_reversed (PyProof.Rows.callWith_type1 (args_cons (thn (he.run pins s σ H _ I h) fun u s1 ⟨v, H1, I1, r1, q1⟩ => args_nil ?_) hs) hs rfl))) hs2) hs2 rfl))
  obtain ⟨a, xs, ev, hq, q⟩ := q1
  subst ev
  obtain rfl : u = Value.ref a := r1
  obtain ⟨its, rv, p', hz⟩ := I1.list hq
  refine call_reversed_list p'.isList (args_nil ?_)
  have k0 : ∀ b o, s1.heap.get? b = some o → (s1.heap.push (revObj a ((its.toArray.size : Int) - 1))).get? b = some o := fun b o e => Heap.get?_push_of_some _ e
  have I2 : Inv X pins σ H1 { s1 with heap := s1.heap.push (revObj a ((its.toArray.size : Int) - 1)) } := I1.kept (t' := s1.toks) k0
  have fp := I1.fpOk (H' := H1) (b := s1.heap.objs.size) (Nat.le_refl _) (I1.hok.fresh (Nat.le_refl _))
  have hl := p'.isList
  obtain ⟨ol, hol, _⟩ := id hl
  have hne : a ≠ s1.heap.objs.size := Nat.ne_of_lt (Heap.lt_size hol)
  have hn : its.toArray.size ≤ sizeLine := by rw [List.size_toArray, ← rv.length]; exact hz
  refine call_list_rev (s := { s1 with heap := s1.heap.push (revObj a ((its.toArray.size : Int) - 1)) }) (I1.ok.hd hc) ⟨_, Heap.get?_push_size _ rfl, rfl, rfl⟩ (hl.push _) hne hn fun h' tk acc c hk hS hi => ?_
  have I3 := I2.turnedNew (t' := tk) (ch := [s1.heap.objs.size]) (T := (s1.heap.push (revObj a ((its.toArray.size : Int) - 1))).objs.size) (ob := .lst xs.reverse) (h' := h') (fun b o hb e => hk b o (fun z => hb (by simp [z])) e)
    (fun b hb => by rw [List.mem_singleton] at hb; subst hb; exact fp) (Nat.le_refl _)
    (show ObjOk X.prog X.w _ _ _ (.lst xs.reverse) from ⟨by rw [List.length_reverse]; exact hz, acc.toList, c, RT.vals_rev rv hi, by rw [Array.toArray_toList]; exact hS⟩)
  exact ⟨.ref _, _, I3, rfl, q _ (I2.hok.fresh (Nat.le_refl _))⟩
end

/-! ### as a meaning -/
def sLstRev (f : Sm Rv) : Sm Rv := fun ρ => bnd (f ρ) fun r ρ1 => match deref r ρ1 with
  | some (.lst l) => .ok (.f (.lst l.reverse)) ρ1
  | _ => .bad
section
variable {X : Cx} {e : Expr} {f : Sm Rv} {p p2 pos pos2 : Pos}
theorem de_lstRev (hc : X.calm = true) (hg : Gl X "list") (hm : X.mg "list" = none) (hg2 : Gl X "reversed") (hm2 : X.mg "reversed" = none) (ha : PDE X e f) (hs : noStar e = true) :
    PDE X (.Call (.Name "list" p) [.Call (.Name "reversed" p2) [e] [] pos2] [] pos) (sLstRev f) := by
  refine ⟨fun W tk => PEimp (pe_lstRev hc hg hm hg2 hm2 (ha.run W tk) (star_cons hs)) fun σ H Q h => ?_⟩
  obtain ⟨S, ρ, R, g0⟩ := h
  refine tE_bnd (G := fun o => GoodE X.K X.mg W σ ρ H S o Q) S ρ R g0 (fun _ _ z => z) (fun z => z) fun r1 ρ1 _ g1 x H1 S1 R1 s1 t1 _ => ?_
  have g1 := GoodE.adv s1 g1
  split at g1
  · rename_i l el
    obtain ⟨a, xs, e1, e2, e3⟩ := top_lst R1 (t1.top R1 el)
    exact ⟨a, xs, e1, SqL.of e2, fun q hq => good_newL R1 g1 e3.reverse hq⟩
  · exact g1.elim
end
end L2.DL

/-! D layer, part 16: functions and their calls -/
namespace L2.DL
open PySem PySem.Spec PyProof.Rows L2

/-- a function's promise: what it does to its parameters' cells -/
def spD (K : PySem.W.Frag) (mg : MG) (n : Nat) (F : Sm Rv) : Sp := fun vs H Q E => vs.length = n ∧ ∃ S ρ, Rep K H S (vs.map some) ρ ∧ GoodE K mg (fun c d _ H' => E c d H') (vs.map some) ρ H S (F ρ) Q
/-- the cells of the parameters behind a run; only the first may be one that the caller lends -/
def finE (n : Nat) (io : Bool) (ρ : DEnv) : DEnv := match n with
  | 0 => []
  | n + 1 => (if io = true then ρ.headD .no else .no) :: List.replicate n .no
def fxOf (io : Bool) : Nat → Bool := fun i => io && i == 0
def sFun (n N : Nat) (io : Bool) (g : Sm Fl) : Sm Rv := fun ρ => match g (ρ ++ List.replicate (N - n) .no) with
  | .ok .nx ρ' => .ok (.v .non) (finE n io ρ')
  | .ok (.ret (.l _)) _ => .bad
  | .ok (.ret r) ρ' => .ok r (finE n io ρ')
  | .exc x ρ' => .exc x (finE n io ρ')
  | _ => .bad
def callV (n : Nat) (F : Sm Rv) (ds : List D) (ρ : DEnv) : Out Rv := if ds.length = n then match F (ds.map .val) with
    | .ok (.l _) _ => .bad
    | .ok r _ => .ok r ρ
    | .exc x _ => .exc x ρ
    | .bad => .bad
  else .bad
def sCall (n : Nat) (F : Sm Rv) (g : Sm (List Rv)) : Sm Rv := fun ρ => bnd (g ρ) fun rs ρ1 => match frzs rs ρ1 with
  | some (ds, ρ2) => callV n F ds ρ2
  | none => .bad
def callIO (n : Nat) (F : Sm Rv) (j : Nat) (ds : List D) (ρ : DEnv) : Out Rv := if ds.length + 1 = n then match ρ[j]? with
    | some (.own d) => match F (.own d :: ds.map .val) with
      | .ok (.l _) _ => .bad
      | .ok r (c :: _) => .ok r (ρ.set j c)
      | .exc x (c :: _) => .exc x (ρ.set j c)
      | _ => .bad
    | _ => .bad
  else .bad
def sCallIO (n : Nat) (F : Sm Rv) (g : Sm (List Rv)) : Sm Rv := fun ρ => bnd (g ρ) fun rs ρ1 => match rs with
  | .l j :: rs' => match frzs rs' ρ1 with
    | some (ds, ρ2) => callIO n F j ds ρ2
    | none => .bad
  | _ => .bad

section
variable {K : PySem.W.Frag} {mg : MG} {W : WX} {σ σ' σc : St} {ρ ρ' ρc ρc' : DEnv} {H S H' S' : Hp}
theorem get_no {m i : Nat} {c : Cell} (h : (ρ ++ List.replicate m Cell.no)[i]? = some c) (hc : c ≠ .no) : ρ[i]? = some c := by
  by_cases hi : i < ρ.length
  · rwa [List.getElem?_append_left hi] at h
  · rw [List.getElem?_append_right (by omega), List.getElem?_replicate] at h
    split at h
    · cases h; exact absurd rfl hc
    · cases h
theorem get_lt {α : Type} {l m : List α} {i : Nat} {x : α} (h : l[i]? = some x) : (l ++ m)[i]? = some x := by
  rw [List.getElem?_append_left (List.getElem?_eq_some_iff.mp h).1]; exact h
theorem own_more {m k : Nat} {b : Addr} (hl : ρ.length = σ.length) : Own (σ ++ List.replicate k none) (ρ ++ List.replicate m .no) b ↔ Own σ ρ b := by
  constructor
  · rintro ⟨i, d, h1, h2⟩
    have e := get_no h1 (by simp)
    have hi : i < σ.length := by rw [← hl]; exact (List.getElem?_eq_some_iff.mp e).1
    exact ⟨i, d, e, by rwa [List.getElem?_append_left hi] at h2⟩
  · rintro ⟨i, d, h1, h2⟩
    exact ⟨i, d, get_lt h1, get_lt h2⟩
theorem Rep.more {m : Nat} (R : Rep K H S σ ρ) : Rep K H S (σ ++ List.replicate m none) (ρ ++ List.replicate m .no) where
  sub := R.sub
  len := by simp [R.len]
  val := fun i d h => by
    obtain ⟨v, e, q⟩ := R.val i d (get_no h (by simp))
    exact ⟨v, get_lt e, q⟩
  own := fun i d h => by
    obtain ⟨v, e, q⟩ := R.own i d (get_no h (by simp))
    exact ⟨v, get_lt e, q⟩
  inj := fun i j d e a h1 h2 h3 h4 => by
    have e1 := get_no h1 (by simp)
    have e2 := get_no h2 (by simp)
    have l1 : i < σ.length := by rw [← R.len]; exact (List.getElem?_eq_some_iff.mp e1).1
    have l2 : j < σ.length := by rw [← R.len]; exact (List.getElem?_eq_some_iff.mp e2).1
    exact R.inj i j d e a e1 e2 (by rwa [List.getElem?_append_left l1] at h3) (by rwa [List.getElem?_append_left l2] at h4)
theorem finE_get {n : Nat} {io : Bool} {i : Nat} {c : Cell} (h : (finE n io ρ)[i]? = some c) (hc : c ≠ .no) : io = true ∧ i = 0 ∧ ρ[0]? = some c := by
  cases n with
  | zero => simp [finE] at h
  | succ n =>
    unfold finE at h
    cases i with
    | zero =>
      cases io with
      | true =>
        cases ρ with
        | nil => simp at h; exact absurd h.symm hc
        | cons x ρ => simp at h; exact ⟨rfl, rfl, by simp [h]⟩
      | false => simp at h; exact absurd h.symm hc
    | succ i =>
      rw [List.getElem?_cons_succ, List.getElem?_replicate] at h
      split at h
      · cases h; exact absurd rfl hc
      · cases h
theorem finE_len {n : Nat} {io : Bool} : (finE n io ρ).length = n := by
  cases n <;> simp [finE]
/-- back at the parameters -/
theorem own_fin {io : Bool} {n k : Nat} {σ0 : St} (hn : σ0.length = n) (hf : ∀ i, fxOf io i = true → σ'[i]? = (σ0 ++ List.replicate k none)[i]?) {b : Addr} (h : Own σ0 (finE n io ρ') b) : Own σ' ρ' b := by
  obtain ⟨i, d, h1, h2⟩ := h
  obtain ⟨e1, e2, e3⟩ := finE_get h1 (by simp)
  subst e2
  exact ⟨0, d, e3, by rw [hf 0 (by simp [fxOf, e1])]; exact get_lt h2⟩
theorem Rep.fin {io : Bool} {n k : Nat} {σ0 : St} (R : Rep K H S σ' ρ') (hn : σ0.length = n) (hf : ∀ i, fxOf io i = true → σ'[i]? = (σ0 ++ List.replicate k none)[i]?) : Rep K H S σ0 (finE n io ρ') := by
  have key : ∀ {i : Nat} {c : Cell}, (finE n io ρ')[i]? = some c → c ≠ .no → i = 0 ∧ ρ'[0]? = some c ∧ σ'[0]? = (σ0 ++ List.replicate k none)[0]? := by
    intro i c h hc
    obtain ⟨e1, e2, e3⟩ := finE_get h hc
    exact ⟨e2, e3, hf 0 (by simp [fxOf, e1])⟩
  have k0 : ∀ {i : Nat} {c : Cell}, (finE n io ρ')[i]? = some c → i < σ0.length := by
    intro i c h
    have := (List.getElem?_eq_some_iff.mp h).1
    rw [finE_len] at this
    omega
  exact {
    sub := R.sub
    len := by rw [finE_len, hn]
    val := fun i d h => by
      obtain ⟨e1, e2, e3⟩ := key h (by simp)
      obtain ⟨v, q1, q2⟩ := R.val 0 d e2
      have hi := k0 h
      subst e1
      rw [e3, List.getElem?_append_left hi] at q1
      exact ⟨v, q1, q2⟩
    own := fun i d h => by
      obtain ⟨e1, e2, e3⟩ := key h (by simp)
      obtain ⟨v, q1, q2⟩ := R.own 0 d e2
      have hi := k0 h
      subst e1
      rw [e3, List.getElem?_append_left hi] at q1
      exact ⟨v, q1, q2⟩
    inj := fun i j d e a h1 h2 _ _ => by
      rw [(key h1 (by simp)).1, (key h2 (by simp)).1] }
theorem Stp.fin {io : Bool} {n k : Nat} {σ0 : St} {ρ0 : DEnv} (h0 : ρ0.length = σ0.length) (s : Stp (σ0 ++ List.replicate k none) (ρ0 ++ List.replicate k .no) H S σ' ρ' H' S') (hn : σ0.length = n)
    (hf : ∀ i, fxOf io i = true → σ'[i]? = (σ0 ++ List.replicate k none)[i]?) : Stp σ0 ρ0 H S σ0 (finE n io ρ') H' S' where
  dom := s.dom
  frame := fun b o e h => s.frame b o e fun z => h ((own_more h0).mp z)
  mono := s.mono
  sg := fun b o e => by
    rcases s.sg b o e with z | z | z
    · exact .inl z
    · exact .inr (.inl ((own_more h0).mp z))
    · exact .inr (.inr z)
  og := fun b z => by
    rcases s.og b (own_fin hn hf z) with z | z
    · exact .inl ((own_more h0).mp z)
    · exact .inr z
theorem rep_vals {xs : List V} {ds : List D} (R : Rep K H S σ ρ) (h : DenL K S xs ds) : Rep K H S (xs.map some) (ds.map .val) where
  sub := R.sub
  len := by rw [List.length_map, List.length_map, h.length]
  val := fun i d e => by
    rw [List.getElem?_map] at e
    cases q : ds[i]? with
    | none => rw [q] at e; cases e
    | some d' =>
      rw [q] at e; cases e
      obtain ⟨v, q1, q2⟩ := h.get q
      exact ⟨v, by rw [List.getElem?_map, q1]; rfl, q2⟩
  own := fun i d e => by
    rw [List.getElem?_map] at e
    cases q : ds[i]? <;> rw [q] at e <;> cases e
  inj := fun i j d e a h1 => by
    rw [List.getElem?_map] at h1
    cases q : ds[i]? <;> rw [q] at h1 <;> cases h1
theorem no_own {ds : List D} {b : Addr} : ¬ Own σ (ds.map .val) b := fun ⟨i, d, h, _⟩ => by
  rw [List.getElem?_map] at h
  cases q : ds[i]? <;> rw [q] at h <;> cases h
/-- behind a call that borrows nothing -/
theorem Stp.call (R : Rep K H S σ ρ) (hno : ∀ b, ¬ Own σc ρc b) (R' : Rep K H' S' σc ρc') (s : Stp σc ρc H S σc ρc' H' S') : Rep K H' S' σ ρ ∧ Stp σ ρ H S σ ρ H' S' := by
  have og : ∀ {a : Addr} {d : D}, S a = none → ObjD K H S a d → S' a = none ∧ ObjD K H' S' a d := by
    intro a d h1 h2
    obtain ⟨o, ho⟩ := h2.there
    refine ⟨?_, h2.mono s.mono fun o q => s.frame a o q (hno a)⟩
    cases q : S' a with
    | none => rfl
    | some u =>
      rcases s.sg a u q with ⟨o', z⟩ | z | z
      · rw [h1] at z; cases z
      · exact absurd z (hno a)
      · rw [ho] at z; cases z
  refine ⟨⟨R'.sub, R.len, fun i d h => ?_, fun i d h => ?_, R.inj⟩, ⟨s.dom, fun b o e _ => s.frame b o e (hno b), s.mono, fun b o e => ?_, fun b z => .inl z⟩⟩
  · obtain ⟨v, q1, q2⟩ := R.val i d h
    exact ⟨v, q1, q2.mono s.mono⟩
  · obtain ⟨a, q1, q2, q3⟩ := R.own i d h
    exact ⟨a, q1, og q2 q3⟩
  · rcases s.sg b o e with z | z | z
    · exact .inl z
    · exact absurd z (hno b)
    · exact .inr (.inr z)
theorem own_there (R : Rep K H S σ ρ) {b : Addr} (h : Own σ ρ b) : ∃ o, H b = some o := by
  obtain ⟨i, d, h1, h2⟩ := h
  obtain ⟨a, q1, _, q3⟩ := R.own i d h1
  rw [h2] at q1; cases q1
  exact q3.there
theorem Tm.call {x : V} {r : Rv} (R : Rep K H S σ ρ) (hno : ∀ b, ¬ Own σc ρc b) (t : Tm K H' S' σc ρc' x r) (n : Nw (New σc ρc H) x r) (hr : ∀ i, r ≠ .l i) : Tm K H' S' σ ρ x r ∧ Nw (New σ ρ H) x r := by
  cases r with
  | v d => exact ⟨t, trivial⟩
  | f d =>
    obtain ⟨a, e1, e2, e3, e4⟩ := t
    have na : H a = none := (n a e1).resolve_left (hno a)
    refine ⟨⟨a, e1, e2, fun z => ?_, e4⟩, fun b e => ?_⟩
    · obtain ⟨o, ho⟩ := own_there R z
      rw [na] at ho; cases ho
    · rw [e1] at e; cases e; exact .inr na
  | l i => exact absurd rfl (hr i)
theorem own_io {a0 b : Addr} {xs : List V} {ds : List D} {d : D} (h : Own ((V.ref a0 :: xs).map some) (.own d :: ds.map .val) b) : b = a0 := by
  obtain ⟨i, e, h1, h2⟩ := h
  cases i with
  | zero => simp at h2; exact h2.symm
  | succ i =>
    rw [List.getElem?_cons_succ, List.getElem?_map] at h1
    cases q : ds[i]? <;> rw [q] at h1 <;> cases h1
theorem rep_io {xs : List V} {ds : List D} {d : D} {a0 : Addr} (R : Rep K H S σ ρ) (h : DenL K S xs ds) (h1 : S a0 = none) (h2 : ObjD K H S a0 d) : Rep K H S ((V.ref a0 :: xs).map some) (.own d :: ds.map .val) where
  sub := R.sub
  len := by simp [h.length]
  val := fun i e q => by
    cases i with
    | zero => simp at q
    | succ i =>
      obtain ⟨v, q1, q2⟩ := (rep_vals R h).val i e (by simpa using q)
      exact ⟨v, by simpa using q1, q2⟩
  own := fun i e q => by
    cases i with
    | zero => simp at q; subst q; exact ⟨a0, rfl, h1, h2⟩
    | succ i =>
      rw [List.getElem?_cons_succ, List.getElem?_map] at q
      cases q' : ds[i]? <;> rw [q'] at q <;> cases q
  inj := fun i j e e' b q1 q2 _ _ => by
    have z : ∀ {i : Nat} {e : D}, (Cell.own d :: ds.map Cell.val)[i]? = some (.own e) → i = 0 := by
      intro i e q
      cases i with
      | zero => rfl
      | succ i =>
        rw [List.getElem?_cons_succ, List.getElem?_map] at q
        cases q' : ds[i]? <;> rw [q'] at q <;> cases q
    rw [z q1, z q2]
theorem own_upd {j : Nat} {c : Cell} {b : Addr} (h : Own σ (ρ.set j c) b) : (∃ i d, i ≠ j ∧ ρ[i]? = some (.own d) ∧ σ[i]? = some (some (.ref b))) ∨ ∃ d, c = .own d ∧ σ[j]? = some (some (.ref b)) := by
  obtain ⟨i, d, h1, h2⟩ := h
  by_cases e : i = j
  · subst e
    rw [List.getElem?_set_self' ] at h1
    cases q : ρ[i]? with
    | none => rw [q] at h1; cases h1
    | some y => rw [q] at h1; cases h1; exact .inr ⟨d, rfl, h2⟩
  · rw [List.getElem?_set_ne (Ne.symm e)] at h1
    exact .inl ⟨i, d, e, h1, h2⟩
theorem Stp.callIO {a0 : Addr} {xs : List V} {ds : List D} {d : D} {j : Nat} {c : Cell} (R : Rep K H S σ ρ) (t0 : σ[j]? = some (some (.ref a0))) (ed : ρ[j]? = some (.own d)) (R' : Rep K H' S' ((V.ref a0 :: xs).map some) (c :: ρc'))
    (s : Stp ((V.ref a0 :: xs).map some) (.own d :: ds.map .val) H S ((V.ref a0 :: xs).map some) (c :: ρc') H' S') : Rep K H' S' σ (ρ.set j c) ∧ Stp σ ρ H S σ (ρ.set j c) H' S' := by
  have o0 : Own σ ρ a0 := ⟨j, d, ed, t0⟩
  have oj : ∀ {i : Nat} {e : D}, i ≠ j → ρ[i]? = some (.own e) → ∀ {a : Addr}, σ[i]? = some (some (.ref a)) → a ≠ a0 := fun {i e} hij h {a} h2 z => hij (R.inj i j e d a h ed h2 (by rw [t0, z]))
  have og : ∀ {a : Addr} {e : D}, a ≠ a0 → S a = none → ObjD K H S a e → S' a = none ∧ ObjD K H' S' a e := by
    intro a e ha h1 h2
    obtain ⟨o, ho⟩ := h2.there
    refine ⟨?_, h2.mono s.mono fun o q => s.frame a o q fun z => ha (own_io z)⟩
    cases q : S' a with
    | none => rfl
    | some u =>
      rcases s.sg a u q with ⟨o', z⟩ | z | z
      · rw [h1] at z; cases z
      · exact absurd (own_io z) ha
      · rw [ho] at z; cases z
  have hj : j < ρ.length := (List.getElem?_eq_some_iff.mp ed).1
  have set_get : ∀ {i : Nat} {y : Cell}, (ρ.set j c)[i]? = some y → (i = j ∧ y = c) ∨ (i ≠ j ∧ ρ[i]? = some y) := by
    intro i y h
    by_cases e : i = j
    · subst e
      rw [List.getElem?_set_self hj] at h
      cases h; exact .inl ⟨rfl, rfl⟩
    · rw [List.getElem?_set_ne (Ne.symm e)] at h
      exact .inr ⟨e, h⟩
  refine ⟨⟨R'.sub, by rw [List.length_set]; exact R.len, fun i e h => ?_, fun i e h => ?_, fun i i2 e e2 a h1 h2 h3 h4 => ?_⟩, ⟨s.dom, fun b o e hn => s.frame b o e fun z => hn (own_io z ▸ o0), s.mono, fun b o e => ?_, fun b z => ?_⟩⟩
  · rcases set_get h with ⟨z1, z2⟩ | ⟨z1, z2⟩
    · subst z1; subst z2
      obtain ⟨v, q1, q2⟩ := R'.val 0 e rfl
      simp at q1; subst q1
      exact ⟨_, t0, q2⟩
    · obtain ⟨v, q1, q2⟩ := R.val i e z2
      exact ⟨v, q1, q2.mono s.mono⟩
  · rcases set_get h with ⟨z1, z2⟩ | ⟨z1, z2⟩
    · subst z1; subst z2
      obtain ⟨v, q1, q2⟩ := R'.own 0 e rfl
      simp at q1; subst q1
      exact ⟨_, t0, q2⟩
    · obtain ⟨a, q1, q2, q3⟩ := R.own i e z2
      exact ⟨a, q1, og (oj z1 z2 q1) q2 q3⟩
  · rcases set_get h1 with ⟨z1, z2⟩ | ⟨z1, z2⟩
    · rcases set_get h2 with ⟨y1, y2⟩ | ⟨y1, y2⟩
      · rw [z1, y1]
      · subst z1
        rw [t0] at h3
        cases h3
        exact absurd rfl (oj y1 y2 h4)
    · rcases set_get h2 with ⟨y1, y2⟩ | ⟨y1, y2⟩
      · subst y1
        rw [t0] at h4
        cases h4
        exact absurd rfl (oj z1 z2 h3)
      · exact R.inj i i2 e e2 a z2 y2 h3 h4
  · rcases s.sg b o e with z | z | z
    · exact .inl z
    · exact .inr (.inl (own_io z ▸ o0))
    · exact .inr (.inr z)
  · rcases own_upd z with ⟨i, e, z1, z2, z3⟩ | ⟨e, z1, z2⟩
    · exact .inl ⟨i, e, z2, z3⟩
    · rw [t0] at z2; cases z2; exact .inl o0
theorem Tm.callIO {x : V} {r : Rv} {a0 : Addr} {xs : List V} {ds : List D} {d : D} {j : Nat} {c : Cell} (R : Rep K H S σ ρ) (t0 : σ[j]? = some (some (.ref a0))) (ed : ρ[j]? = some (.own d)) (t : Tm K H' S' ((V.ref a0 :: xs).map some) (c :: ρc') x r)
    (n : Nw (New ((V.ref a0 :: xs).map some) (.own d :: ds.map .val) H) x r) (hr : ∀ i, r ≠ .l i) : Tm K H' S' σ (ρ.set j c) x r ∧ Nw (New σ ρ H) x r := by
  have o0 : Own σ ρ a0 := ⟨j, d, ed, t0⟩
  cases r with
  | v d => exact ⟨t, trivial⟩
  | f d' =>
    obtain ⟨a, e1, e2, e3, e4⟩ := t
    refine ⟨⟨a, e1, e2, fun z => ?_, e4⟩, fun b e => ?_⟩
    · rcases own_upd z with ⟨i, e, z1, z2, z3⟩ | ⟨e, z1, z2⟩
      · rcases n a e1 with q | q
        · have := own_io q; subst this
          exact z1 (R.inj i j e d a z2 ed z3 t0)
        · obtain ⟨o, ho⟩ := own_there R ⟨i, e, z2, z3⟩
          rw [q] at ho; cases ho
      · rw [t0] at z2; cases z2
        exact e3 ⟨0, e, by rw [z1]; rfl, rfl⟩
    · rw [e1] at e; cases e
      rcases n a e1 with q | q
      · exact .inl (own_io q ▸ o0)
      · exact .inr q
  | l i => exact absurd rfl (hr i)
end

/-- a function that may be called by the name x -/
def CalOk (P : Program) (w : World) (K : PySem.W.Frag) (mg : MG) (base : Heap) (k : Nat) (x : Str) (n : Nat) (F : Sm Rv) : Prop :=
  ∃ (f : Addr) (fd : FuncData) (ps : List Str), ps.length = n ∧ FnOk P w K mg base (L2.CX P w) k f fd ps (spD K mg n F) ∧ Binds K fd ps [] ∧ mg x = some (.ref f) ∧ PySem.W.keepIn K (.ref f) = true

section
variable {X : Cx} {e : Expr} {es : List Expr} {as : Sm (List Rv)} {p pos : Pos} {F : Sm Rv} {k n : Nat} {x : Str}
theorem de_call (C : CalOk X.prog X.w X.K X.mg X.base k x n F) (hr : Room k X.A) (hg : Gl X x) (ha : PDA X (e :: es) as) (hdb : (x == ("__debug__" : Str)) = false) (he : noStar e = true) (hpl : es.all noStar = true) :
    PDE X (.Call (.Name x p) (e :: es) [] pos) (sCall n F as) := by
  obtain ⟨f, fd, ps, hps, G, B, hm, hk⟩ := C
  refine ⟨fun W tk => PEimp (pe_callS G hr hg hm hk B (passAt tk) (ha.run W tk) hdb (star_cons he) (star_any hpl)) fun σ H Q h => ?_⟩
  obtain ⟨S, ρ, R, g0⟩ := h
  refine tA_bnd (G := fun o => GoodE X.K X.mg W σ ρ H S o Q) S ρ R g0 (fun _ _ z => z) (fun z => z) fun rs ρ1 _ g1 xs H1 S1 R1 s1 t1 _ => ?_
  split at g1
  · rename_i ds ρ2 ef
    obtain ⟨S2, R2, s2, hd, _, _⟩ := frzs_ok R1 s1 t1.tfs ef
    have g1 := GoodE.adv s2 g1
    unfold callV at g1
    split at g1
    · rename_i hl
      refine ⟨by rw [hd.length]; exact hl, S2, ds.map .val, rep_vals R2 hd, ?_⟩
      cases eF : F (ds.map .val) with
      | bad => rw [eF] at g1; exact g1.elim
      | exc y ρc =>
        rw [eF] at g1
        intro c d H' S' R' s' i
        obtain ⟨a1, a2⟩ := Stp.call R2 (fun _ => no_own) R' s'
        exact g1 c d H' S' a1 a2 i
      | ok r ρc =>
        rw [eF] at g1
        have hr : ∀ i, r ≠ .l i := fun i z => by subst z; exact g1.elim
        have g1 : GoodE X.K X.mg W σ ρ2 H1 S2 (.ok r ρ2) Q := by
          cases r with
          | l i => exact absurd rfl (hr i)
          | v d => exact g1
          | f d => exact g1
        intro x' H' S' R' s' t' n'
        obtain ⟨a1, a2⟩ := Stp.call R2 (fun _ => no_own) R' s'
        obtain ⟨b1, b2⟩ := t'.call R2 (fun _ => no_own) n' hr
        exact g1 x' H' S' a1 a2 b1 b2
    · exact g1.elim
  · exact g1.elim
theorem de_callIO (C : CalOk X.prog X.w X.K X.mg X.base k x n F) (hr : Room k X.A) (hg : Gl X x) (ha : PDA X (e :: es) as) (hdb : (x == ("__debug__" : Str)) = false) (he : noStar e = true) (hpl : es.all noStar = true) :
    PDE X (.Call (.Name x p) (e :: es) [] pos) (sCallIO n F as) := by
  obtain ⟨f, fd, ps, hps, G, B, hm, hk⟩ := C
  refine ⟨fun W tk => PEimp (pe_callS G hr hg hm hk B (passAt tk) (ha.run W tk) hdb (star_cons he) (star_any hpl)) fun σ H Q h => ?_⟩
  obtain ⟨S, ρ, R, g0⟩ := h
  refine tA_bnd (G := fun o => GoodE X.K X.mg W σ ρ H S o Q) S ρ R g0 (fun _ _ z => z) (fun z => z) fun rs ρ1 _ g1 xs H1 S1 R1 s1 t1 _ => ?_
  split at g1
  · rename_i j rs' _ _
    split at g1
    · rename_i ds ρ2 ef
      cases xs with
      | nil => exact t1.elim
      | cons x0 xs =>
        obtain ⟨t0, _, t2⟩ := t1
        obtain ⟨S2, R2, s2, hd, _, _⟩ := frzs_ok R1 s1 t2.tfs ef
        have g1 := GoodE.adv s2 g1
        unfold callIO at g1
        split at g1
        · rename_i hl
          split at g1
          · rename_i d ed
            have t0 : σ[j]? = some (some x0) := t0
            obtain ⟨a0, q1, q2, q3⟩ := R2.own j d ed
            rw [t0] at q1
            cases q1
            have Rc : Rep X.K H1 S2 ((V.ref a0 :: xs).map some) (.own d :: ds.map .val) := rep_io R2 hd q2 q3
            have oc : ∀ {b}, Own ((V.ref a0 :: xs).map some) (.own d :: ds.map .val) b → b = a0 := own_io
            refine ⟨by rw [List.length_cons, hd.length]; exact hl, S2, _, Rc, ?_⟩
            cases eF : F (.own d :: ds.map .val) with
            | bad => rw [eF] at g1; exact g1.elim
            | exc y ρc =>
              rw [eF] at g1
              cases ρc with
              | nil => exact g1.elim
              | cons c ρc =>
                intro cl dd H' S' R' s' i
                obtain ⟨a1, a2⟩ := Stp.callIO R2 t0 ed R' s'
                exact g1 cl dd H' S' a1 a2 i
            | ok r ρc =>
              rw [eF] at g1
              have hr : ∀ i, r ≠ .l i := fun i z => by subst z; exact g1.elim
              cases ρc with
              | nil => cases r <;> exact g1.elim
              | cons c ρc =>
                have g1 : GoodE X.K X.mg W σ ρ2 H1 S2 (.ok r (ρ2.set j c)) Q := by
                  cases r with
                  | l i => exact absurd rfl (hr i)
                  | v d => exact g1
                  | f d => exact g1
                intro x' H' S' R' s' t' n'
                obtain ⟨a1, a2⟩ := Stp.callIO R2 t0 ed R' s'
                obtain ⟨b1, b2⟩ := t'.callIO R2 t0 ed n' hr
                exact g1 x' H' S' a1 a2 b1 b2
          · exact g1.elim
        · exact g1.elim
    · exact g1.elim
  · exact g1.elim
end

/-- THE RULE for a def -/
theorem fn_ok {P : Program} {w : World} {K : PySem.W.Frag} {mg : MG} {base : Heap} {x qual : Str} {st : Stmt} {f : Addr} {fd : FuncData} {N ps : List Str} {k n : Nat} {io : Bool} {g : Sm Fl} (Fn : Fun K x qual st f fd) (S : FnScope N ps (defScope st)) (hn : ps.length = n)
    (hb : ∀ (cdv : Value) (A : Around) (outer : List Env) (s : Shared) (H : Hp) (E : XK), Room k (A.deeper (envOfC qual (defScope st) s.heap.objs.size f cdv)) →
      PDB (cxOf (L2.CX P w) P w K mg base N qual (defScope st) f cdv A outer s H E) (fxOf io) (defBody st) g) : FnOk P w K mg base (L2.CX P w) (k + 1) f fd ps (spD K mg n (sFun n N.length io g)) := by
  have hpl : n ≤ N.length := by have := congrArg List.length S.pre; rw [List.length_take] at this; omega
  refine Fn.okX S (fun vs H Q E h => h.1.trans hn.symm) (fun cdv A outer s H vs Q E hr h => ?_)
  obtain ⟨hv, S0, ρ0, R0, g0⟩ := h
  have tk : Takes (cxOf (L2.CX P w) P w K mg base N qual (defScope st) f cdv A outer s H E) (fun c d _ H' => E c d H') := takes_of rfl rfl rfl rfl
  refine ⟨_, (hb cdv A outer s H E hr).run _ tk, S0, ρ0 ++ List.replicate (N.length - n) .no, ?_, ?_⟩
  · unfold start; rw [hv]; exact R0.more
  · have hl0 : ρ0.length = n := by rw [R0.len, List.length_map, hv]
    have hs0 : (vs.map some).length = n := by rw [List.length_map, hv]
    have hst : start N vs = vs.map some ++ List.replicate (N.length - n) none := by unfold start; rw [hv]
    rw [hst]
    have g0 : GoodE K mg (fun c d _ H' => E c d H') (vs.map some) ρ0 H S0 (sFun n N.length io g ρ0) Q := g0
    unfold sFun at g0
    have h0 : ρ0.length = (vs.map some).length := R0.len
    cases eg : g (ρ0 ++ List.replicate (N.length - n) .no) with
    | bad => rw [eg] at g0; exact g0
    | exc y ρ' =>
      rw [eg] at g0
      exact fun c d σ' H' S' R' s' f' i => g0 c d H' S' (R'.fin hs0 f') (s'.fin h0 hs0 f') i
    | ok r ρ' =>
      rw [eg] at g0
      cases r with
      | brk => exact g0.elim
      | cnt => exact g0.elim
      | nx => exact fun σ' H' S' R' s' f' => g0 .non H' S' (R'.fin hs0 f') (s'.fin h0 hs0 f') .non trivial
      | ret r =>
        cases r with
        | l i => exact g0.elim
        | v d => exact fun σ' H' S' x R' s' f' t' n' => g0 x H' S' (R'.fin hs0 f') (s'.fin h0 hs0 f') t' trivial
        | f d =>
          refine fun σ' H' S' x R' s' f' t' n' => g0 x H' S' (R'.fin hs0 f') (s'.fin h0 hs0 f') ?_ ?_
          · obtain ⟨a, e1, e2, e3, e4⟩ := t'
            exact ⟨a, e1, e2, fun z => e3 (own_fin hs0 f' z), e4⟩
          · intro a e
            rcases n' a e with z | z
            · exact .inl ((own_more h0).mp z)
            · exact .inr z
end L2.DL

/-! D layer, part 17: methods of a slot's own list, stores into it, starred items, constants of the module -/
namespace L2.DL
open PySem PySem.Spec PyProof.Rows L2

/-! ### meanings -/
noncomputable def sAppend (f g : Sm Rv) : Sm Rv := fun ρ => bnd (f ρ) fun r ρ1 => match r with
  | .l i => match ρ1[i]? with
    | some (.own (.lst _)) => bnd (g ρ1) fun q ρ2 => match frz q ρ2 with
      | some (d, ρ3) => match ρ3[i]? with
        | some (.own (.lst l)) => if small (l.length + 1) = true then .ok (.v .non) (ρ3.set i (.own (.lst (l ++ [d])))) else .bad
        | _ => .bad
      | none => .bad
    | _ => .bad
  | _ => .bad
def sPop (f : Sm Rv) : Sm Rv := fun ρ => bnd (f ρ) fun r ρ1 => match r with
  | .l i => match ρ1[i]? with
    | some (.own (.lst l)) => match l[l.length - 1]? with
      | some d => .ok (.v d) (ρ1.set i (.own (.lst l.dropLast)))
      | none => .bad
    | _ => .bad
  | _ => .bad
noncomputable def sPopAt (f g : Sm Rv) : Sm Rv := fun ρ => bnd (f ρ) fun r ρ1 => match r with
  | .l i => match ρ1[i]? with
    | some (.own (.lst _)) => bnd (g ρ1) fun q ρ2 => match deref q ρ2, ρ2[i]? with
      | some (.int z), some (.own (.lst l)) => if rngOk z = true then match seqIndex? z l.length with
        | some k => match l[k]? with
          | some d => .ok (.v d) (ρ2.set i (.own (.lst (l.eraseIdx k))))
          | none => .bad
        | none => .bad
        else .bad
      | _, _ => .bad
    | _ => .bad
  | _ => .bad
noncomputable def sExtend (f g : Sm Rv) : Sm Rv := fun ρ => bnd (f ρ) fun r ρ1 => match r with
  | .l i => match ρ1[i]? with
    | some (.own (.lst _)) => bnd (g ρ1) fun q ρ2 => match deref q ρ2, ρ2[i]? with
      | some (.lst m), some (.own (.lst l)) => if small (l.length + m.length) = true then .ok (.v .non) (ρ2.set i (.own (.lst (l ++ m)))) else .bad
      | _, _ => .bad
    | _ => .bad
  | _ => .bad
def upLst : D → D → D → Option D
  | .lst l, .int z, d => match ixN l.length z with
    | some j => some (.lst (l.set j d))
    | none => none
  | _, _, _ => none

section
variable {K : PySem.W.Frag} {mg : MG} {W : WX} {σ σ0 σ' : St} {ρ ρ0 ρ1 ρ' : DEnv} {H S H0 S0 H1 S1 H' S' : Hp}
/-- a slot's own object is written -/
theorem Rep.upd {i : Nat} {a : Addr} {d d' : D} {o : HO} (R : Rep K H S σ ρ) (ei : ρ[i]? = some (.own d)) (ti : σ[i]? = some (some (.ref a))) (h : ObjD K (upd H a o) S a d') :
    Rep K (upd H a o) S σ (ρ.set i (.own d')) ∧ Stp σ ρ H S σ (ρ.set i (.own d')) (L2.upd H a o) S := by
  obtain ⟨a', q1, q2, q3⟩ := R.own i d ei
  rw [ti] at q1; cases q1
  have hi : i < ρ.length := (List.getElem?_eq_some_iff.mp ei).1
  have set_get : ∀ {k : Nat} {y : Cell}, (ρ.set i (.own d'))[k]? = some y → (k = i ∧ y = .own d') ∨ (k ≠ i ∧ ρ[k]? = some y) := by
    intro k y h
    by_cases e : k = i
    · subst e
      rw [List.getElem?_set_self hi] at h
      cases h; exact .inl ⟨rfl, rfl⟩
    · rw [List.getElem?_set_ne (Ne.symm e)] at h
      exact .inr ⟨e, h⟩
  have o0 : Own σ ρ a := ⟨i, d, ei, ti⟩
  refine ⟨⟨fun b o' e => ?_, by rw [List.length_set]; exact R.len, fun k e h' => ?_, fun k e h' => ?_, fun k k2 e e2 b h1 h2 h3 h4 => ?_⟩, ⟨fun b o' e => ?_, fun b o' e n => ?_, Sub.rfl, fun b o' e => .inl ⟨_, e⟩, fun b z => ?_⟩⟩
  · have : b ≠ a := fun z => by rw [z, q2] at e; cases e
    rw [upd_ne this]; exact R.sub b o' e
  · rcases set_get h' with ⟨_, z⟩ | ⟨_, z⟩
    · cases z
    · exact R.val k e z
  · rcases set_get h' with ⟨z1, z⟩ | ⟨z1, z⟩
    · cases z; subst z1
      exact ⟨a, ti, q2, h⟩
    · obtain ⟨b, w1, w2, w3⟩ := R.own k e z
      have : b ≠ a := fun y => z1 (R.inj k i e d b z ei w1 (by rw [ti, y]))
      exact ⟨b, w1, w2, w3.mono Sub.rfl fun o' y => by rw [upd_ne this]; exact y⟩
  · have z : ∀ {k : Nat} {e : D}, (ρ.set i (.own d'))[k]? = some (.own e) → ∃ e, ρ[k]? = some (.own e) := by
      intro k e h
      rcases set_get h with ⟨z1, z⟩ | ⟨z1, z⟩
      · subst z1; exact ⟨_, ei⟩
      · exact ⟨_, z⟩
    obtain ⟨e1, y1⟩ := z h1
    obtain ⟨e2, y2⟩ := z h2
    exact R.inj k k2 _ _ b y1 y2 h3 h4
  · by_cases z : b = a
    · subst z; exact ⟨_, upd_same⟩
    · exact ⟨_, by rw [upd_ne z]; exact e⟩
  · have : b ≠ a := fun z => n (z ▸ o0)
    rw [upd_ne this]; exact e
  · rcases own_upd z with ⟨k, e, z1, z2, z3⟩ | ⟨e, z1, z2⟩
    · exact .inl ⟨k, e, z2, z3⟩
    · rw [ti] at z2; cases z2; exact .inl o0
theorem frzq_ok {x : V} {r : Rv} {d : D} (R : Rep K H S σ ρ) (s : Stp σ0 ρ0 H0 S0 σ ρ H S) (t : Tq K H S σ ρ (New σ0 ρ0 H0) x r) (e : frz r ρ = some (d, ρ1)) :
    ∃ S1, Rep K H S1 σ ρ1 ∧ Stp σ0 ρ0 H0 S0 σ ρ1 H S1 ∧ Den K S1 x d ∧ Keep σ ρ H S x r σ ρ1 H S1 := by
  cases r with
  | v d' => cases e; exact ⟨S, R, s, t, Sub.rfl, fun b o h1 h2 h3 _ => ⟨h1, h2, h3⟩⟩
  | f d' =>
    cases e
    obtain ⟨a, e1, e2, e3, e4, e5⟩ := t
    subst e1
    obtain ⟨R', hd⟩ := R.frzObj e3 e4
    refine ⟨_, R', ⟨s.dom, s.frame, fun b o q => addS_sub R.sub b o (s.mono b o q), fun b o q => ?_, s.og⟩, hd, addS_sub R.sub, fun b o h1 h2 h3 h4 => ⟨h1, ?_, h3⟩⟩
    · by_cases z : b = a
      · subst z; exact .inr e5
      · rw [addS_ne z] at q; exact s.sg b o q
    · rw [addS_ne (fun z => h4 ⟨_, rfl⟩ (by rw [z]))]; exact h2
  | l i => exact t.elim
theorem Keep.step {x : V} {r : Rv} {ρ2 : DEnv} {H2 S2 : Hp} (k : Keep σ ρ H S x r σ ρ1 H1 S1) (s : Stp σ ρ1 H1 S1 σ ρ2 H2 S2) : Keep σ ρ H S x r σ ρ2 H2 S2 := by
  refine ⟨fun b o q => s.mono b o (k.1 b o q), fun b o h1 h2 h3 h4 => ?_⟩
  obtain ⟨q1, q2, q3⟩ := k.2 b o h1 h2 h3 h4
  refine ⟨s.frame b o q1 q3, ?_, fun z => ?_⟩
  · cases q : S2 b with
    | none => rfl
    | some u =>
      rcases s.sg b u q with ⟨o', z⟩ | z | z
      · rw [q2] at z; cases z
      · exact absurd z q3
      · rw [q1] at z; cases z
  · rcases s.og b z with z | z
    · exact q3 z
    · rw [q1] at z; cases z
end

section
variable {X : Cx} {fx : Nat → Bool} {o e ie : Expr} {es : List Expr} {f g : Sm Rv} {as : Sm (List Rv)} {pos apos cpos p : Pos}
def baseOk (o : Expr) (name : Str) (env : Env) : Prop := attributeBase o name env (eval o env) = eval o env
theorem few_one {env : Env} (h : noStar e = true) : ((backTo cpos (starEach [e] env)).all (fun x => !x.1) && (backToKw cpos (keywordEach [] env)).all (fun x => x.1.isSome)
      && decide ((e :: ([] : List Expr)).length + ([] : List Keyword).length + (if ([] : List Keyword).isEmpty then 0 else 1) < 30)) = true := by
  rw [star_cons h]; rfl
theorem star_one {env : Env} (h : noStar e = true) : starEach [e] env = (false, eval e env) :: starEach [] env := star_cons h
theorem de_append (ha : PDE X o f) (hb : PDE X e g) (hs : noStar e = true) (hbase : attributeBase o "append" X.env (eval o X.env) = eval o X.env) (hline : (apos.endLine == cpos.line) = true) :
    PDE X (.Call (.Attribute o "append" apos) [e] [] cpos) (sAppend f g) := by
  refine ⟨fun W tk => PEimp (pe_bm PySem.F.plainAttrs_list PySem.F.slot_list_append PySem.F.type_list_append mt_append (ha.run W tk) (pa_cons (hb.run W tk) pa_nil (star_cons hs)) hbase (few_one hs) hline (star_cons hs) rfl) fun σ H Q h => ?_⟩
  obtain ⟨S, ρ, R, g0⟩ := h
  refine tE_bnd (G := fun o => GoodE X.K X.mg W σ ρ H S o Q) S ρ R g0 (fun _ _ z => z) (fun z => z) fun r ρ1 _ g1 x H1 S1 R1 s1 t1 n1 => ?_
  have g1 := GoodE.adv s1 g1
  clear n1
  split at g1
  · rename_i i _ _
    split at g1
    · rename_i l0 e0
      obtain ⟨a, q1, q2, xs0, q3, q4⟩ := R1.own i _ e0
      have t1 : σ[i]? = some (some x) := t1
      rw [q1] at t1; cases t1
      refine ⟨.inl ⟨rfl, xs0, SqL.of q3⟩, ?_⟩
      refine tE_bnd (G := fun o => GoodE X.K X.mg W σ ρ1 H1 S1 o Q) S1 ρ1 R1 g1 (fun _ _ z => z) (fun z => z) fun r2 ρ2 _ g2 y H2 S2 R2 s2 t2 n2 => ?_
      split at g2
      · rename_i d ρ3 ef
        obtain ⟨S3, R3, s3, hd, _, _⟩ := frz_ok R2 s2 (t2.tf n2) ef
        have g2 := GoodE.adv s3 g2
        split at g2
        · rename_i l el
          split at g2
          · rename_i hz
            obtain ⟨a', w1, w2, xs, w3, w4⟩ := R3.own i _ el
            rw [q1] at w1; cases w1
            have hz := small_le hz
            rw [← w4.length] at hz
            obtain ⟨R4, s4⟩ := R3.upd (o := .lst (xs ++ [y])) el q1 (d' := .lst (l ++ [d])) ⟨_, upd_same, w4.append (.cons hd .nil)⟩
            exact ⟨a, xs, y, rfl, rfl, w3, hz, g2 _ _ _ R4 s4 .non trivial⟩
          · exact g2.elim
        · exact g2.elim
      · exact g2.elim
    · exact g1.elim
  · exact g1.elim
theorem de_pop (ha : PDE X o f) (hbase : attributeBase o "pop" X.env (eval o X.env) = eval o X.env) (hline : (apos.endLine == cpos.line) = true) :
    PDE X (.Call (.Attribute o "pop" apos) [] [] cpos) (sPop f) := by
  refine ⟨fun W tk => PEimp (pe_bm0 PySem.F.plainAttrs_list PySem.F.slot_list_pop PySem.F.type_list_pop mt_pop (ha.run W tk) hbase hline) fun σ H Q h => ?_⟩
  obtain ⟨S, ρ, R, g0⟩ := h
  refine tE_bnd (G := fun o => GoodE X.K X.mg W σ ρ H S o Q) S ρ R g0 (fun _ _ z => z) (fun z => z) fun r ρ1 _ g1 x H1 S1 R1 s1 t1 n1 => ?_
  have g1 := GoodE.adv s1 g1
  clear n1
  split at g1
  · rename_i i _ _
    split at g1
    · rename_i l el
      obtain ⟨a, q1, q2, xs, q3, q4⟩ := R1.own i _ el
      have t1 : σ[i]? = some (some x) := t1
      rw [q1] at t1; cases t1
      split at g1
      · rename_i d ed
        obtain ⟨v, v1, v2⟩ := q4.get ed
        rw [← q4.length] at v1
        obtain ⟨R4, s4⟩ := R1.upd (o := .lst xs.dropLast) el q1 (d' := .lst l.dropLast) ⟨_, upd_same, q4.dropLast⟩
        exact ⟨.inl ⟨rfl, xs, SqL.of q3⟩, a, xs, v, rfl, rfl, q3, v1, g1 _ _ _ R4 s4 v2 trivial⟩
      · exact g1.elim
    · exact g1.elim
  · exact g1.elim
theorem de_popAt (ha : PDE X o f) (hb : PDE X e g) (hs : noStar e = true) (hbase : attributeBase o "pop" X.env (eval o X.env) = eval o X.env) (hline : (apos.endLine == cpos.line) = true) :
    PDE X (.Call (.Attribute o "pop" apos) [e] [] cpos) (sPopAt f g) := by
  refine ⟨fun W tk => PEimp (pe_bm PySem.F.plainAttrs_list PySem.F.slot_list_pop PySem.F.type_list_pop mt_popAt (ha.run W tk) (pa_cons (hb.run W tk) pa_nil (star_cons hs)) hbase (few_one hs) hline (star_cons hs) rfl) fun σ H Q h => ?_⟩
  obtain ⟨S, ρ, R, g0⟩ := h
  refine tE_bnd (G := fun o => GoodE X.K X.mg W σ ρ H S o Q) S ρ R g0 (fun _ _ z => z) (fun z => z) fun r ρ1 _ g1 x H1 S1 R1 s1 t1 n1 => ?_
  have g1 := GoodE.adv s1 g1
  clear n1
  split at g1
  · rename_i i _ _
    split at g1
    · rename_i l0 e0
      obtain ⟨a, q1, q2, xs0, q3, q4⟩ := R1.own i _ e0
      have t1 : σ[i]? = some (some x) := t1
      rw [q1] at t1; cases t1
      refine ⟨.inl ⟨rfl, xs0, SqL.of q3⟩, ?_⟩
      refine tE_bnd (G := fun o => GoodE X.K X.mg W σ ρ1 H1 S1 o Q) S1 ρ1 R1 g1 (fun _ _ z => z) (fun z => z) fun r2 ρ2 _ g2 y H2 S2 R2 s2 t2 n2 => ?_
      have g2 := GoodE.adv s2 g2
      split at g2
      · rename_i z l ez el
        split at g2
        · rename_i hz
          split at g2
          · rename_i k ek
            split at g2
            · rename_i d ed
              obtain ⟨a', w1, w2, xs, w3, w4⟩ := R2.own i _ el
              rw [q1] at w1; cases w1
              obtain ⟨v, v1, v2⟩ := w4.get ed
              obtain rfl := top_int (t2.top R2 ez)
              obtain ⟨b1, b2⟩ := rngOk_of hz
              obtain ⟨R4, s4⟩ := R2.upd (o := .lst (xs.eraseIdx k)) el q1 (d' := .lst (l.eraseIdx k)) ⟨_, upd_same, w4.eraseIdx k⟩
              exact ⟨a, xs, z, k, v, rfl, rfl, w3, by omega, by omega, by rw [w4.length]; exact ek, v1, g2 _ _ _ R4 s4 v2 trivial⟩
            · exact g2.elim
          · exact g2.elim
        · exact g2.elim
      · exact g2.elim
    · exact g1.elim
  · exact g1.elim
theorem de_extend (ha : PDE X o f) (hb : PDE X e g) (hs : noStar e = true) (hbase : attributeBase o "extend" X.env (eval o X.env) = eval o X.env) (hline : (apos.endLine == cpos.line) = true) :
    PDE X (.Call (.Attribute o "extend" apos) [e] [] cpos) (sExtend f g) := by
  refine ⟨fun W tk => PEimp (pe_bm PySem.F.plainAttrs_list PySem.F.slot_list_extend PySem.F.type_list_extend mt_extend (ha.run W tk) (pa_cons (hb.run W tk) pa_nil (star_cons hs)) hbase (few_one hs) hline (star_cons hs) rfl) fun σ H Q h => ?_⟩
  obtain ⟨S, ρ, R, g0⟩ := h
  refine tE_bnd (G := fun o => GoodE X.K X.mg W σ ρ H S o Q) S ρ R g0 (fun _ _ z => z) (fun z => z) fun r ρ1 _ g1 x H1 S1 R1 s1 t1 n1 => ?_
  have g1 := GoodE.adv s1 g1
  clear n1
  split at g1
  · rename_i i _ _
    split at g1
    · rename_i l0 e0
      obtain ⟨a, q1, q2, xs0, q3, q4⟩ := R1.own i _ e0
      have t1 : σ[i]? = some (some x) := t1
      rw [q1] at t1; cases t1
      refine ⟨.inl ⟨rfl, xs0, SqL.of q3⟩, ?_⟩
      refine tE_bnd (G := fun o => GoodE X.K X.mg W σ ρ1 H1 S1 o Q) S1 ρ1 R1 g1 (fun _ _ z => z) (fun z => z) fun r2 ρ2 _ g2 y H2 S2 R2 s2 t2 n2 => ?_
      have g2 := GoodE.adv s2 g2
      split at g2
      · rename_i m l em el
        split at g2
        · rename_i hz
          obtain ⟨a', w1, w2, xs, w3, w4⟩ := R2.own i _ el
          rw [q1] at w1; cases w1
          obtain ⟨b, zs, rfl, v1, v2⟩ := top_lst R2 (t2.top R2 em)
          obtain ⟨R4, s4⟩ := R2.upd (o := .lst (xs ++ zs)) el q1 (d' := .lst (l ++ m)) ⟨_, upd_same, w4.append v2⟩
          exact ⟨a, b, xs, zs, rfl, rfl, w3, v1, by rw [w4.length, v2.length]; exact small_le hz, g2 _ _ _ R4 s4 .non trivial⟩
        · exact g2.elim
      · exact g2.elim
    · exact g1.elim
  · exact g1.elim

/-! ### stores into a slot's own list -/
theorem upLst_some {c k d c' : D} (h : upLst c k d = some c') : ∃ l z j, c = .lst l ∧ k = .int z ∧ ixN l.length z = some j ∧ c' = .lst (l.set j d) := by
  cases c with
  | lst l =>
    cases k with
    | int z =>
      unfold upLst at h
      cases e : ixN l.length z with
      | none => simp only [e] at h; cases h
      | some j => simp only [e] at h; cases h; exact ⟨l, z, j, rfl, rfl, e, rfl⟩
    | _ => cases h
  | _ => cases h
theorem dr_sub {i : Nat} {x : Str} (hN : X.N[i]? = some x) (hv : Vis X.env.scope x) (hd : (x == ("__debug__" : Str)) = false) (hcd : (x == ("__classdict__" : Str)) = false) (hb : PDE X ie f)
    (ha : ∀ v, assign (.Subscript (.Name x p) ie pos) X.env v = (do
      let ov ← holding [v] (eval (.Name x p) X.env)
      let iv ← holding [v, ov] (eval ie X.env)
      standAt pos
      holding [v, ov, iv] (setItem ov iv v)
      release [v, ov, iv] [])) : PDR X fx (.Subscript (.Name x p) ie pos) (rSub i f upLst) := by
  refine ⟨fun W tk => PGimp (pg_sub (pe_var hN hv hd hcd) (hb.run W tk) set_list ha) fun y σ H Q ⟨S, ρ, r, σ0, ρ0, H0, S0, R, s, t, g0⟩ => ?_⟩
  unfold rSub at g0
  split at g0
  · rename_i c0 e0
    obtain ⟨a, q1, q2, q3⟩ := R.own i _ e0
    split at g0
    · rename_i d ρ1 ef
      obtain ⟨S1, R1, s1, hd, k1⟩ := frzq_ok R s t ef
      refine ⟨_, q1, S1, ρ1, R1, ?_⟩
      cases ei : f ρ1 with
      | bad => rw [ei] at g0; exact g0.elim
      | exc y ρ2 =>
        rw [ei] at g0
        exact fun c d H' S' R' t' i' => g0 c d σ H' S' R' (s1.trans t') (fun _ _ => rfl) i'
      | ok q ρ2 =>
        rw [ei] at g0
        dsimp only [bnd] at g0
        intro ik H2 S2 R2 s2 t2 n2
        split at g0
        · rename_i k c ek ec
          obtain ⟨a', w1, w2, w3⟩ := R2.own i _ ec
          rw [q1] at w1; cases w1
          split at g0
          · rename_i c' eu
            obtain ⟨l, z, j, rfl, rfl, ej, rfl⟩ := upLst_some eu
            obtain ⟨xs, w3, w4⟩ := w3
            obtain rfl := top_int (t2.top R2 ek)
            obtain ⟨R4, s4⟩ := R2.upd (o := .lst (xs.set j y)) ec q1 (d' := .lst (l.set j d)) ⟨_, upd_same, w4.set (hd.mono s2.mono) j⟩
            exact ⟨a, xs, z, j, rfl, rfl, w3, by rw [w4.length]; exact ej, g0 σ _ S2 R4 ((s1.trans s2).trans s4) (fun _ _ => rfl) ((k1.step s2).step s4)⟩
          · exact g0.elim
        · exact g0.elim
    · exact g0.elim
  · exact g0.elim

/-! ### starred items -/
theorem tms_v {K : PySem.W.Frag} {H S : Hp} {σ : St} {ρ : DEnv} {P : Addr → Prop} : ∀ {xs ys : List V} {ds : List D} {rs : List Rv}, DenL K S xs ds → Tms K H S σ ρ P ys rs → Tms K H S σ ρ P (xs ++ ys) (ds.map Rv.v ++ rs)
  | _, _, _, _, .nil, t => t
  | _, _, _, _, .cons h r, t => ⟨h, trivial, tms_v r t⟩
theorem aparts_v : ∀ {xs ys : List V} {ds : List D} {rs : List Rv}, xs.length = ds.length → Aparts ys rs → Aparts (xs ++ ys) (ds.map Rv.v ++ rs)
  | [], _, [], _, _, t => t
  | x :: xs, ys, d :: ds, rs, h, t => ⟨fun ⟨_, z⟩ => (nomatch z), aparts_v (by simpa using h) t⟩
  | [], _, _ :: _, _, h, _ => by simp at h
  | _ :: _, _, [], _, h, _ => by simp at h
theorem da_star (ha : PDE X e f) (hb : PDA X es as) (hs : starEach (.Starred e p :: es) X.env = (true, eval e X.env) :: starEach es X.env) : PDA X (.Starred e p :: es) (aStar f as) := by
  refine ⟨fun W tk => PAimp (StX.pa_star (ha.run W tk) (hb.run W tk) hs) fun σ H Q h => ?_⟩
  obtain ⟨S, ρ, R, g0⟩ := h
  refine tE_bnd (G := fun o => GoodA X.K X.mg W σ ρ H S o Q) S ρ R g0 (fun _ _ z => z) (fun z => z) fun r1 ρ1 _ g1 x H1 S1 R1 s1 t1 _ => ?_
  have g1 := GoodA.adv s1 g1
  have main : ∀ (l : List D) (xs : List V), DenL X.K S1 xs l → GoodA X.K X.mg W σ ρ1 H1 S1 (bnd (as ρ1) fun rs ρ2 => .ok (l.map Rv.v ++ rs) ρ2) Q → tA X.K X.mg W as σ H1 fun ys H2 => Q (xs ++ ys) H2 := by
    intro l xs hd g
    refine tA_bnd (G := fun o => GoodA X.K X.mg W σ ρ1 H1 S1 o Q) S1 ρ1 R1 g (fun _ _ z => z) (fun z => z) fun rs ρ2 _ g2 ys H2 S2 R2 s2 t2 ap => ?_
    exact g2 _ H2 S2 R2 s2 (tms_v (hd.mono s2.mono) t2) (aparts_v hd.length ap)
  split at g1
  · rename_i l el
    obtain ⟨a, xs, e1, e2, e3⟩ := top_lst R1 (t1.top R1 el)
    exact ⟨a, xs, e1, .inr (SqL.of e2), main l xs e3 g1⟩
  · rename_i l el
    obtain ⟨a, xs, e1, e2, e3⟩ := top_tup (t1.top R1 el)
    exact ⟨a, xs, e1, .inl (R1.sub.seqT e2), main l xs e3 g1⟩
  · exact g1.elim

/-! ### constants of the module -/
theorem de_glob {x : Str} {u : Value} {v : V} {d : D} (hg : Gl X x) (hm : X.mg x = some u) (r : RelV v u) (hd : ∀ S, Den X.K S v d) (hdb : (x == ("__debug__" : Str)) = false) : PDE X (.Name x pos) (sLit d) :=
  de_lit (pe_glob hg hm r hdb) hd
end
end L2.DL

/-! D layer, part 18: the rules in short, their side conditions by themselves -/
namespace L2.DL
open PySem PySem.Spec PyProof.Rows L2

def fxs (l : List Nat) : Nat → Bool := fun i => l.contains i
theorem fxs_cons {j : Nat} {l : List Nat} : ∀ i, fxs l i = true → fxs (j :: l) i = true := fun i h => by
  unfold fxs at h ⊢
  rw [List.contains_cons, h, Bool.or_true]
theorem fxs_same {l : List Nat} : ∀ i, fxs l i = true → fxs l i = true := fun i h => h
theorem hu70 {k : Nat} {A : Around} (hr : Room k A) : A.units + 70 < cLine := by have := hr.un; omega
theorem hu65 {k : Nat} {A : Around} (hr : Room k A) : A.units + 65 < cLine := by have := hr.un; omega
theorem hu64 {k : Nat} {A : Around} (hr : Room k A) : A.units + 64 < cLine := by have := hr.un; omega

def blkChk (N : List Str) (sc scope : Scope) (own : List (Str × Nat)) : Bool :=
  decide (scope.kind = .function) && scope.names.all (fun y => decide (scope.names.lookup y.1 = some y.2)) && own.all (fun p => decide (N[p.2]? = some p.1)) &&
  scope.names.all (fun y => !decide (y.2 = .free) || decide (sc.names.lookup y.1 = some .cell) || decide (sc.names.lookup y.1 = some .free)) &&
  scope.names.all (fun y => !(decide (y.2 = .local) || decide (y.2 = .cell)) || decide (y.1 ∈ own.map (·.1)) || decide (y.1 ∉ N))
theorem blk_of {N : List Str} {sc scope : Scope} {own : List (Str × Nat)} (h : blkChk N sc scope own = true) : BlkOk N sc scope own := by
  unfold blkChk at h
  simp only [Bool.and_eq_true, List.all_eq_true, decide_eq_true_eq, Bool.or_eq_true, Bool.not_eq_true', decide_eq_false_iff_not, Bool.or_eq_false_iff] at h
  obtain ⟨⟨⟨⟨h1, h2⟩, h3⟩, h4⟩, h5⟩ := h
  refine ⟨h1, h2, h3, fun y hy e => ?_, fun y hy e => ?_⟩
  · rcases h4 y hy with (q | q) | q
    · exact absurd e q
    · exact .inl q
    · exact .inr q
  · rcases h5 y hy with (q | q) | q
    · rcases e with e | e
      · exact absurd e q.1
      · exact absurd e q.2
    · exact .inl q
    · exact .inr q

section
variable {X : Cx} {fx fxL : Nat → Bool} {a b c e iter tg elt ie : Expr} {es ts : List Expr} {f g h : Sm Rv} {as : Sm (List Rv)} {pos p p1 p2 apos cpos : Pos}
theorem qv (i : Nat) {x : Str} (hN : X.N[i]? = some x := by rfl) (hv : Vis X.env.scope x := by first | exact Or.inl rfl | exact Or.inr (Or.inl rfl) | exact Or.inr (Or.inr rfl)) (hd : (x == ("__debug__" : Str)) = false := by decide)
    (hcd : (x == ("__classdict__" : Str)) = false := by decide) : PDE X (.Name x pos) (sVar i) := de_var hN hv hd hcd
theorem qgi {x : Str} {i : Int} (hm : ∃ t, X.mg x = some (.int i t)) (hg : Gl X x := by rfl) (hdb : (x == ("__debug__" : Str)) = false := by decide) : PDE X (.Name x pos) (sLit (.int i)) := by
  obtain ⟨t, hm⟩ := hm
  exact de_glob hg hm (v := .int i) ⟨t, rfl⟩ (fun _ => .int i) hdb
theorem qcmp {o : CmpOp} {cc : Cmp2} (ho : Sd2 X (compareOp o) (ofC cc)) (ha : PDE X a f) (hb : PDE X b g) (hm : behindInMarks o b = false := by first | rfl | with_unfolding_all rfl) : PDE X (.Compare a [o] [b] pos) (sOfT (tCmp' cc f g)) := by
  have h := de_cmp (pos := pos) ho ha hb hm
  refine ⟨fun W tk => PEimp (h.run W tk) fun σ H Q q => ?_⟩
  obtain ⟨S, ρ, R, g0⟩ := q
  refine ⟨S, ρ, R, ?_⟩
  have e : sBin (ofC cc) f g ρ = sOfT (tCmp' cc f g) ρ := by
    unfold sBin sOfT tCmp' bnd
    cases e1 : f ρ with
    | bad => rfl
    | exc y ρ1 => rfl
    | ok r ρ1 =>
      dsimp only
      cases e2 : g ρ1 with
      | bad => rfl
      | exc y ρ2 => rfl
      | ok q ρ2 =>
        dsimp only
        unfold ap2 apC ofC
        cases deref r ρ2 <;> cases deref q ρ2 <;> try rfl
        rename_i u v
        dsimp only
        cases cc u v <;> rfl
  rw [e]; exact g0
theorem qtcmp {o : CmpOp} {cc : Cmp2} (ho : Sd2 X (compareOp o) (ofC cc)) (ha : PDE X a f) (hb : PDE X b g) (hm : behindInMarks o b = false := by first | rfl | with_unfolding_all rfl) : PDT X (.Compare a [o] [b] pos) (tCmp' cc f g) := dt_cmp ho ha hb hm
theorem qchn {o o' : CmpOp} {k k' : Cmp2} (ho : Sd2 X (compareOp o) (ofC k)) (ho' : Sd2 X (compareOp o') (ofC k')) (ha : PDE X a f) (hb : PDE X b g) (hc : PDE X c h) (hm : behindInMarks o' c = false := by first | rfl | with_unfolding_all rfl) :
    PDE X (.Compare a [o, o'] [b, c] pos) (sOfT (tChn k k' f g h)) := de_chn ho ho' ha hb hc hm
theorem qtchn {o o' : CmpOp} {k k' : Cmp2} (ho : Sd2 X (compareOp o) (ofC k)) (ho' : Sd2 X (compareOp o') (ofC k')) (ha : PDE X a f) (hb : PDE X b g) (hc : PDE X c h) (hm : behindInMarks o' c = false := by first | rfl | with_unfolding_all rfl) :
    PDT X (.Compare a [o, o'] [b, c] pos) (tChn k k' f g h) := dt_chn ho ho' ha hb hc hm
theorem qacons (ha : PDE X e f) (hb : PDA X es as) (h : noStar e = true := by rfl) : PDA X (e :: es) (aCons f as) := da_cons ha hb h
theorem qastar (ha : PDE X e f) (hb : PDA X es as) (hs : starEach (.Starred e p :: es) X.env = (true, eval e X.env) :: starEach es X.env := by rfl) : PDA X (.Starred e p :: es) (aStar f as) := da_star ha hb hs
theorem qblt {id : String} {x : Str} {op : OpN} (hc : SdN X (.builtin id) op) (hm : X.mg x = none) (ha : PDA X (e :: es) as) (hg : Gl X x := by rfl) (hv : bootBuiltins x = some (.builtin id) := by decide +kernel)
    (hst : (e :: es).all noStar = true := by rfl) (hn : x ≠ "__name__" := by decide) (hdb : (x == ("__debug__" : Str)) = false := by decide) : PDE X (.Call (.Name x p) (e :: es) [] pos) (sBlt op as) := de_blt hc hg hm hv ha hst hn hdb
theorem qty {T : String} {x : Str} {op : OpN} (hc : SdN X (.type T) op) (hm : X.mg x = none) (ha : PDA X (e :: es) as) (hg : Gl X x := by rfl) (hv : bootBuiltins x = some (.type T) := by decide +kernel)
    (hst : (e :: es).all noStar = true := by rfl) (hn : x ≠ "__name__" := by decide) (hdb : (x == ("__debug__" : Str)) = false := by decide) : PDE X (.Call (.Name x p) (e :: es) [] pos) (sBlt op as) := de_ty hc hg hm hv ha hst hn hdb
theorem qtv {t : Sm Rv} (ha : PDE X a t) (he : ∀ whole, isTrue a X.env whole = (do let v ← whole; standAt a.pos; holding [v] (truthy v)) := by intro _; rfl) : PDT X a (tOfS t) := dt_val ha he
theorem qix {op : Op2} (hr : SdI X op) (ha : PDE X a f) (hb : PDE X b g) (hs : PlainIx b := by exact fun _ _ => rfl) : PDE X (.Subscript a b pos) (sBin op f g) := de_ix hr ha hb hs
theorem qisi {y : Str} {U : String} (hm : X.mg "isinstance" = none) (hmT : X.mg y = none) (ha : PDE X a f) (hg : Gl X "isinstance" := by rfl) (hT : U ∈ isiTys := by decide) (hgT : Gl X y := by rfl) (hbT : bootBuiltins y = some (.type U) := by decide +kernel) (hn : y ≠ "__name__" := by decide)
    (hd : (y == ("__debug__" : Str)) = false := by decide) (hs : noStar a = true := by rfl) : PDE X (.Call (.Name "isinstance" p1) [a, .Name y p2] [] pos) (sIsi U f) := de_isi (T := y) (x := y) hg hm hT hgT hmT hbT hn hd ha hs
theorem qcall {F : Sm Rv} {k n m : Nat} {x : Str} (C : CalOk X.prog X.w X.K X.mg X.base k x n F) (hr : Room m X.A) (ha : PDA X (e :: es) as) (hk : k ≤ m := by decide) (hg : Gl X x := by rfl) (hdb : (x == ("__debug__" : Str)) = false := by decide) (he : noStar e = true := by rfl) (hpl : es.all noStar = true := by rfl) :
    PDE X (.Call (.Name x p) (e :: es) [] pos) (sCall n F as) := de_call C (hr.mono hk) hg ha hdb he hpl
theorem qcallIO {F : Sm Rv} {k n m : Nat} {x : Str} (C : CalOk X.prog X.w X.K X.mg X.base k x n F) (hr : Room m X.A) (ha : PDA X (e :: es) as) (hk : k ≤ m := by decide) (hg : Gl X x := by rfl) (hdb : (x == ("__debug__" : Str)) = false := by decide) (he : noStar e = true := by rfl) (hpl : es.all noStar = true := by rfl) :
    PDE X (.Call (.Name x p) (e :: es) [] pos) (sCallIO n F as) := de_callIO C (hr.mono hk) hg ha hdb he hpl
theorem qappend {o : Expr} (ha : PDE X o f) (hb : PDE X e g) (hs : noStar e = true := by rfl) (hbase : attributeBase o "append" X.env (eval o X.env) = eval o X.env := by rfl) (hline : (apos.endLine == cpos.line) = true := by rfl) :
    PDE X (.Call (.Attribute o "append" apos) [e] [] cpos) (sAppend f g) := de_append ha hb hs hbase hline
theorem qextend {o : Expr} (ha : PDE X o f) (hb : PDE X e g) (hs : noStar e = true := by rfl) (hbase : attributeBase o "extend" X.env (eval o X.env) = eval o X.env := by rfl) (hline : (apos.endLine == cpos.line) = true := by rfl) :
    PDE X (.Call (.Attribute o "extend" apos) [e] [] cpos) (sExtend f g) := de_extend ha hb hs hbase hline
theorem qpop {o : Expr} (ha : PDE X o f) (hbase : attributeBase o "pop" X.env (eval o X.env) = eval o X.env := by rfl) (hline : (apos.endLine == cpos.line) = true := by rfl) :
    PDE X (.Call (.Attribute o "pop" apos) [] [] cpos) (sPop f) := de_pop ha hbase hline
theorem qpopAt {o : Expr} (ha : PDE X o f) (hb : PDE X e g) (hs : noStar e = true := by rfl) (hbase : attributeBase o "pop" X.env (eval o X.env) = eval o X.env := by rfl) (hline : (apos.endLine == cpos.line) = true := by rfl) :
    PDE X (.Call (.Attribute o "pop" apos) [e] [] cpos) (sPopAt f g) := de_popAt ha hb hs hbase hline
theorem qlrev (hc : X.calm = true) (hm : X.mg "list" = none) (hm2 : X.mg "reversed" = none) (ha : PDE X e f) (hg : Gl X "list" := by rfl) (hg2 : Gl X "reversed" := by rfl) (hs : noStar e = true := by rfl) :
    PDE X (.Call (.Name "list" p) [.Call (.Name "reversed" p2) [e] [] p1] [] pos) (sLstRev f) := de_lstRev hc hg hm hg2 hm2 ha hs
/-! iterables -/
theorem qir1 (hm : X.mg "range" = none) (ha : PDE X e f) (hg : Gl X "range" := by rfl) (hs : noStar e = true := by rfl) : PDI X tg (.Call (.Name "range" p) [e] [] pos) (iRange1 f) := di_range1 hg hm ha hs
theorem qir2 (hm : X.mg "range" = none) (ha : PDE X e f) (hb : PDE X b g) (hg : Gl X "range" := by rfl) (hs : noStar e = true := by rfl) (hs2 : noStar b = true := by rfl) : PDI X tg (.Call (.Name "range" p) [e, b] [] pos) (iRange2 f g) := di_range2 hg hm ha hb hs hs2
theorem qien {elts : List Expr} {kk : Nat} {tpos : Pos} (hm : X.mg "enumerate" = none) (ha : PDE X e f) (hg : Gl X "enumerate" := by rfl) (hs : noStar e = true := by rfl) : PDI X (.Tuple elts kk tpos) (.Call (.Name "enumerate" p) [e] [] pos) (iEnumD f) := di_enum hg hm ha hs
theorem qizp {elts : List Expr} {kk : Nat} {tpos : Pos} (hm : X.mg "zip" = none) (ha : PDE X e f) (hb : PDE X b g) (hg : Gl X "zip" := by rfl) (hs : noStar e = true := by rfl) (hs2 : noStar b = true := by rfl) :
    PDI X (.Tuple elts kk tpos) (.Call (.Name "zip" p) [e, b] [] pos) (iZipD f g) := di_zip hg hm ha hb hs hs2
/-! targets -/
theorem qgn (i : Nat) {x : Str} (hN : X.N.Nodup) (hi : X.N[i]? = some x := by rfl) (hx : Loc X.env.scope x := by first | exact Or.inl rfl | exact Or.inr rfl) (hf : X.fn x = true ∨ X.env.scope.names.lookup x = some .local := by first | exact .inl rfl | exact .inr rfl) (hfx : fx i = false := by rfl) :
    PDG X fx (.Name x pos) (gN i) := dg_name hN hi hx hf hfx
theorem qgc {gg : Gd} {gs : List Gd} (h1 : PDG X fx e gg) (h2 : PDGs X fx ts gs) (hs : plainTg e = true := by rfl) : PDGs X fx (e :: ts) (gg :: gs) := dgs_cons h1 h2 hs
theorem qrn (i : Nat) {x : Str} (hN : X.N.Nodup) (hi : X.N[i]? = some x := by rfl) (hx : Loc X.env.scope x := by first | exact Or.inl rfl | exact Or.inr rfl) (hf : X.fn x = true ∨ X.env.scope.names.lookup x = some .local := by first | exact .inl rfl | exact .inr rfl) (hfx : fx i = false := by rfl) :
    PDR X fx (.Name x pos) (rN i) := dr_name hN hi hx hf hfx
theorem qrs (i : Nat) {x : Str} (hb : PDE X ie f) (hN : X.N[i]? = some x := by rfl) (hv : Vis X.env.scope x := by first | exact Or.inl rfl | exact Or.inr (Or.inl rfl) | exact Or.inr (Or.inr rfl)) (hd : (x == ("__debug__" : Str)) = false := by decide) (hcd : (x == ("__classdict__" : Str)) = false := by decide)
    (ha : ∀ v, assign (.Subscript (.Name x p) ie pos) X.env v = (do
      let ov ← holding [v] (eval (.Name x p) X.env)
      let iv ← holding [v, ov] (eval ie X.env)
      standAt pos
      holding [v, ov, iv] (setItem ov iv v)
      release [v, ov, iv] []) := by intro _; rfl) : PDR X fx (.Subscript (.Name x p) ie pos) (rSub i f upLst) := dr_sub hN hv hd hcd hb ha
theorem qrc {gg : Gr} {gs : List Gr} (h1 : PDR X fx e gg) (h2 : PDRs X fx ts gs) (hs : plainTg e = true := by rfl) : PDRs X fx (e :: ts) (gg :: gs) := drs_cons h1 h2 hs
/-! comprehensions -/
theorem qlc {ifs : List Expr} {scope : Scope} (own : List (Str × Nat)) {fi : Sm Src} {gg : Gd} {tt : Sm Bool} {te : Sm Rv} (hc : X.calm = true) (hN : X.N.Nodup) (hi : PDI X tg iter fi)
    (hg : ∀ (s : Shared) (H : Hp) (C : Addr) (cl : List (Str × Addr)) (fp : List Addr), PDG (X.blk s H scope (compEnvC scope cl C X.env) fp) (fun i => !(own.map (·.2)).contains i) tg gg)
    (ht : ∀ (s : Shared) (H : Hp) (C : Addr) (cl : List (Str × Addr)) (fp : List Addr), PDTs (X.blk s H scope (compEnvC scope cl C X.env) fp) ifs tt)
    (he : ∀ (s : Shared) (H : Hp) (C : Addr) (cl : List (Str × Addr)) (fp : List Addr), PDE (X.blk s H scope (compEnvC scope cl C X.env) fp) elt te)
    (ok : blkChk X.N X.env.scope scope own = true := by first | rfl | kernel_rfl) (hs : ∀ x, foldedSetIterable iter X.env x = pure x := by intro _; rfl) :
    PDE X (.ListComp elt [⟨tg, iter, ifs, 0⟩] scope pos) (sLc fi gg tt te (own.map (·.2))) := de_lc hc hN hi (blk_of ok) hg ht he hs
/-! statements -/
theorem qexpr (ha : PDE X e f) (hs : swapsWith e none pos.line X.env = pure false := by rfl) : PDS X fx (.Expr e pos) (sDrop f) := ds_expr ha hs
theorem qset (i : Nat) {x : Str} (hN : X.N.Nodup) (ha : PDE X e f) (hi : X.N[i]? = some x := by rfl) (hx : Loc X.env.scope x := by first | exact Or.inl rfl | exact Or.inr rfl) (hf : X.fn x = true ∨ X.env.scope.names.lookup x = some .local := by first | exact .inl rfl | exact .inr rfl)
    (hfx : fx i = false := by rfl) (hs : swapsWith e (some (.Name x p)) pos.line X.env = pure false := by rfl) : PDS X fx (.Assign [.Name x p] e pos) (sAsg (rN i) f) := ds_set hN hi hx hf hfx ha hs
theorem qsetLc (i : Nat) {y : Str} {py spos : Pos} {ifs : List Expr} {scope : Scope} (own : List (Str × Nat)) {fi : Sm Src} {gg : Gd} {tt : Sm Bool} {te : Sm Rv} (hc : X.calm = true) (hN : X.N.Nodup) (hi : PDI X tg iter fi)
    (hg : ∀ (s : Shared) (H : Hp) (C : Addr) (cl : List (Str × Addr)) (fp : List Addr), PDG (X.blk s H scope (compEnvC scope cl C X.env) fp) (fun i => !(own.map (·.2)).contains i) tg gg)
    (ht : ∀ (s : Shared) (H : Hp) (C : Addr) (cl : List (Str × Addr)) (fp : List Addr), PDTs (X.blk s H scope (compEnvC scope cl C X.env) fp) ifs tt)
    (he : ∀ (s : Shared) (H : Hp) (C : Addr) (cl : List (Str × Addr)) (fp : List Addr), PDE (X.blk s H scope (compEnvC scope cl C X.env) fp) elt te)
    (hy : X.N[i]? = some y := by rfl) (hyl : X.env.scope.names.lookup y = some .local := by rfl) (hfx : fx i = false := by rfl) (hsw : swapsWith (.ListComp elt [⟨tg, iter, ifs, 0⟩] scope pos) (some (.Name y py)) spos.line X.env = pure true := by rfl)
    (ok : blkChk X.N X.env.scope scope own = true := by first | rfl | kernel_rfl) (hs : ∀ x, foldedSetIterable iter X.env x = pure x := by intro _; rfl) :
    PDS X fx (.Assign [.Name y py] (.ListComp elt [⟨tg, iter, ifs, 0⟩] scope pos) spos) (sAsg (rN i) (sLc fi gg tt te (own.map (·.2)))) := ds_setLc hc hN hy hyl hfx hsw hi (blk_of ok) hg ht he hs
theorem qasg {r : Gr} (ha : PDE X e f) (hg : PDR X fx tg r) (hs : swapsWithSole [tg] e pos.line X.env = pure false := by rfl) (hw : swappedStores [tg] e X.env = pure none := by rfl) (hp : plainTg tg = true := by rfl) : PDS X fx (.Assign [tg] e pos) (sAsg r f) := ds_asg ha hg hs hw hp
theorem qasgs {k k2 : Nat} {rs : List Gr} (hc : X.calm = true) (ha : PDA X es as) (hg : PDRs X fx ts rs) (hs : swapsWithSole [.Tuple ts k p1] (.Tuple es k2 p2) pos.line X.env = pure false := by rfl) (hw : swappedStores [.Tuple ts k p1] (.Tuple es k2 p2) X.env = pure none := by rfl) :
    PDS X fx (.Assign [.Tuple ts k p1] (.Tuple es k2 p2) pos) (sAsgs rs as) := ds_asgs hc ha hg hs hw
theorem qpar (i j : Nat) {x y : Str} {px py pt : Pos} {kt k2 pt2} (hc : X.calm = true) (hN : X.N.Nodup) (ha : PDA X [a, b] as) (hi : X.N[i]? = some x := by rfl) (hj : X.N[j]? = some y := by rfl) (hij : i ≠ j := by decide) (hx : X.env.scope.names.lookup x = some .local := by rfl) (hy : X.env.scope.names.lookup y = some .local := by rfl)
    (hfi : fx i = false := by rfl) (hfj : fx j = false := by rfl) (hw : swappedStores [.Tuple [.Name x px, .Name y py] kt pt] (.Tuple [a, b] k2 pt2) X.env = pure (some [x, y]) := by rfl) :
    PDS X fx (.Assign [.Tuple [.Name x px, .Name y py] kt pt] (.Tuple [a, b] k2 pt2) pos) (sAsgs [rN i, rN j] as) := ds_par hc hN hi hj hij hx hy hfi hfj ha hw
theorem qpar3 (i j l : Nat) {x y z : Str} {px py pz pt : Pos} {kt k2 pt2} {d : Expr} (hc : X.calm = true) (hN : X.N.Nodup) (ha : PDA X [a, b, d] as) (hi : X.N[i]? = some x := by rfl) (hj : X.N[j]? = some y := by rfl) (hl : X.N[l]? = some z := by rfl) (hij : i ≠ j := by decide) (hil : i ≠ l := by decide) (hjl : j ≠ l := by decide)
    (hx : X.env.scope.names.lookup x = some .local := by rfl) (hy : X.env.scope.names.lookup y = some .local := by rfl) (hz : X.env.scope.names.lookup z = some .local := by rfl)
    (hfi : fx i = false := by rfl) (hfj : fx j = false := by rfl) (hfl : fx l = false := by rfl) (hw : swappedStores [.Tuple [.Name x px, .Name y py, .Name z pz] kt pt] (.Tuple [a, b, d] k2 pt2) X.env = pure (some [x, y, z]) := by rfl) :
    PDS X fx (.Assign [.Tuple [.Name x px, .Name y py, .Name z pz] kt pt] (.Tuple [a, b, d] k2 pt2) pos) (sAsgs [rN i, rN j, rN l] as) := ds_par3 hc hN hi hj hl hij hil hjl hx hy hz hfi hfj hfl ha hw
theorem qaug (i : Nat) {x : Str} {o : Operator} {op : Op2} (hN : X.N.Nodup) (ho : Sd2 X (inplaceOp o) op) (ha : PDE X e f) (hi : X.N[i]? = some x := by rfl) (hx : Loc X.env.scope x := by first | exact Or.inl rfl | exact Or.inr rfl)
    (hf : X.fn x = true ∨ X.env.scope.names.lookup x = some .local := by first | exact .inl rfl | exact .inr rfl) (hfx : fx i = false := by rfl) : PDS X fx (.AugAssign (.Name x p) o e pos) (sAug i op f) := ds_aug hN hi hx hf hfx ho ha
theorem qfor {body : List Stmt} {fi : Sm Src} {g' : Gd} {gb : Sm Fl} (hp : PassesOwn (model X.prog X.w) X.A X.env X.xe) (hc : X.calm = true) (hle : ∀ i, fx i = true → fxL i = true) (hi : PDI X tg iter fi) (hg : PDG X fxL tg g') (hb : PDB X fxL body gb)
    (hs : ∀ x, foldedSetIterable iter X.env x = pure x := by intro _; rfl) : PDS X fx (.For tg iter body [] pos) (sFor fxL fi g' gb) := ds_for hp hc hle hi hg hb hs
end
/-- += and -= of numbers -/
def dIAdd : Op2 := fun a b => match a, b with | .int i, .int j => some (.v (.int (i + j))) | _, _ => none
def dISub : Op2 := fun a b => match a, b with | .int i, .int j => some (.v (.int (i - j))) | _, _ => none
theorem si_add {X : Cx} : Sd2 X (inplaceOp .Add) dIAdd := by
  refine ⟨_, iop_add, fun {W σ ρ H S x y a b q Q} R tx ty e g => ?_⟩
  unfold dIAdd at e
  split at e
  · cases e
    obtain rfl := top_int tx
    obtain rfl := top_int ty
    exact ⟨_, _, rfl, rfl, good_atom R g (.int _)⟩
  · cases e
theorem si_sub {X : Cx} : Sd2 X (inplaceOp .Sub) dISub := by
  refine ⟨_, iop_sub, fun {W σ ρ H S x y a b q Q} R tx ty e g => ?_⟩
  unfold dISub at e
  split at e
  · cases e
    obtain rfl := top_int tx
    obtain rfl := top_int ty
    exact ⟨_, _, rfl, rfl, good_atom R g (.int _)⟩
  · cases e
/-- THE RULE for a def, and how it is called -/
theorem fn_all {P : Program} {w : World} {K : PySem.W.Frag} {mg : MG} {base : Heap} {x : Str} {st : Stmt} {N ps : List Str} {k n : Nat} {io : Bool} {l : List Nat} {g : Sm Fl} (S : FnScope N ps (defScope st)) (hn : ps.length = n)
    (hl : ∀ i, fxOf io i = true → fxs l i = true)
    (hb : ∀ (f : Addr) (cdv : Value) (A : Around) (outer : List Env) (s : Shared) (H : Hp) (E : XK), Room k (A.deeper (envOfC x (defScope st) s.heap.objs.size f cdv)) →
      PDB (cxOf (L2.CX P w) P w K mg base N x (defScope st) f cdv A outer s H E) (fxs l) (defBody st) g) : ∀ f fd, Fun K x x st f fd → FnOk P w K mg base (L2.CX P w) (k + 1) f fd ps (spD K mg n (sFun n N.length io g)) := fun f fd Fn =>
  fn_ok Fn S hn fun cdv A outer s H E hr => by
    have h := hb f cdv A outer s H E hr
    exact ⟨fun W tk => PSsimp (h.run W tk) fun D σ H ⟨S, ρ, R, g⟩ => ⟨S, ρ, R, goodS_fx hl g⟩⟩
theorem cal_of {P : Program} {w : World} {K : PySem.W.Frag} {mg : MG} {base : Heap} {x : Str} {st : Stmt} {ps : List Str} {k n : Nat} {F : Sm Rv} (E : ∃ f fd, Fun K x x st f fd ∧ mg x = some (.ref f)) (hn : ps.length = n)
    (B : ∀ f fd, Fun K x x st f fd → FnOk P w K mg base (L2.CX P w) k f fd ps (spD K mg n F))
    (hbi : ∀ (kV doc pm : Value) (an : Option Addr) (cdv ct : Value) (us : List Value), us.length = ps.length → bindArgs (PySem.W.fnOf x x (defArgs st) (defBody st) (defScope st) .none kV doc pm an cdv ct) ⟨us, []⟩ = pure (ps.zip us)) : CalOk P w K mg base k x n F := by
  obtain ⟨f, fd, Fn, hm⟩ := E
  exact ⟨f, fd, ps, hn, B f fd Fn, Fn.binds hbi, hm, Fn.kp⟩
/-- the law's own promise from its meaning -/
theorem law_sp {K : PySem.W.Frag} {mg : MG} {H : Hp} {Q : VK} {W : XK} {a : Addr} {ns : List Int} {F : Sm Rv} {ρ : DEnv} (h : SqL K H a (ns.map V.int)) (hp : F [.val (.scr ns)] = .ok (.v (.bl true)) ρ) (q : ∀ H', Q (.bl true) H') : spD K mg 1 F [.ref a] H Q W := by
  refine ⟨rfl, H, [.val (.scr ns)], ⟨Sub.rfl, rfl, fun i d e => ?_, fun i d e => ?_, fun i j d e b h1 => ?_⟩, ?_⟩
  · cases i with
    | zero => simp at e; subst e; exact ⟨.ref a, rfl, .scr h⟩
    | succ i => simp at e
  · cases i with
    | zero => simp at e
    | succ i => simp at e
  · cases i with
    | zero => simp at h1
    | succ i => simp at h1
  · rw [hp]
    intro x H' S' _ _ t _
    cases (show Den K S' x (.bl true) from t)
    exact q H'
theorem cx_no {P : Program} {w : World} {outer : List Env} {H : Hp} {s : Shared} {e : Value} {s' : Shared} (h : L2.CX P w outer H s (fun _ _ _ => False) e s') : False := by
  obtain ⟨_, _, _, _, _, _, _, _, _, _, _, _, z⟩ := h
  exact z.elim
end L2.DL

/-! D layer, part 19: what the meanings come to: lists of numbers, loops -/
namespace L2.DL
open PySem PySem.Spec PyProof.Rows L2

/-! ### data -/
theorem intsOf_map : ∀ ns : List Int, intsOf (ns.map D.int) = some ns
  | [] => rfl
  | n :: ns => by
    show (match intsOf (ns.map D.int) with | some ns => some (n :: ns) | none => none) = _
    rw [intsOf_map ns]
theorem blsOf_map : ∀ ns : List Bool, blsOf (ns.map D.bl) = some ns
  | [] => rfl
  | n :: ns => by
    show (match blsOf (ns.map D.bl) with | some ns => some (n :: ns) | none => none) = _
    rw [blsOf_map ns]
theorem pyL_ints : ∀ ns : List Int, pyL (ns.map D.int) = some (ns.map PyData.int)
  | [] => by simp [pyL]
  | n :: ns => by simp [pyL, D.py, pyL_ints ns]
theorem eqv_ints : ∀ a b : List Int, PyData.eqvAll (a.map PyData.int) (b.map PyData.int) = decide (a = b)
  | [], [] => by simp [PyData.eqvAll]
  | [], _ :: _ => by simp [PyData.eqvAll]
  | _ :: _, [] => by simp [PyData.eqvAll]
  | x :: a, y :: b => by
    simp only [List.map_cons, PyData.eqvAll, PyData.eqv, eqv_ints a b, List.cons.injEq, Bool.decide_and]
    rfl
theorem lay_ints : ∀ a : List Int, PyData.canLayAll0 (a.map PyData.int) = true
  | [] => by simp [PyData.canLayAll0]
  | _ :: a => by simp [PyData.canLayAll0, PyData.canLay0, lay_ints a]
theorem depth_ints : ∀ a : List Int, PyData.depthAll (a.map PyData.int) ≤ 1
  | [] => by simp [PyData.depthAll]
  | _ :: a => by
    have := depth_ints a
    simp [PyData.depthAll, PyData.depth]; omega
theorem shaped_ints (a : List Int) : SeqAt.shaped (.list (a.map PyData.int)) = true := by
  have := depth_ints a
  simp [SeqAt.shaped, PyData.canLay0, lay_ints a, PyData.depth]; omega
theorem shaped_int (a : Int) : SeqAt.shaped (.int a) = true := by
  simp [SeqAt.shaped, PyData.canLay0, PyData.depth]
theorem dEq_ints (a b : List Int) : dEq (.lst (a.map D.int)) (.lst (b.map D.int)) = some (decide (a = b)) := by
  simp [dEq, D.py, pyL_ints, shaped_ints, PyData.eqv, eqv_ints]
theorem dNe_ints (a b : List Int) : dNe (.lst (a.map D.int)) (.lst (b.map D.int)) = some (!decide (a = b)) := by
  simp [dNe, dEq_ints]
theorem dEq_int (a b : Int) : dEq (.int a) (.int b) = some (decide (a = b)) := by
  simp [dEq, D.py, shaped_int, PyData.eqv]; rfl
theorem dNe_int (a b : Int) : dNe (.int a) (.int b) = some (!decide (a = b)) := by
  simp [dNe, dEq_int]
theorem allInt_map : ∀ ns : List Int, allInt (ns.map D.int) = true
  | [] => rfl
  | _ :: ns => allInt_map ns
/-- the numbers in order -/
def srt (ns : List Int) : List Int := isort (fun a b => decide (a ≤ b)) ns
theorem isort_map {α β : Type} {le : α → α → Bool} {le' : β → β → Bool} {f : α → β} (h : ∀ a b, le' (f a) (f b) = le a b) : ∀ l : List α, isort le' (l.map f) = (isort le l).map f
  | [] => rfl
  | x :: xs => by
    have q : ∀ l : List α, ins le' (f x) (l.map f) = (ins le x l).map f := fun l => by
      induction l with
      | nil => rfl
      | cons y ys ih =>
        show (if le' (f x) (f y) = true then _ else _) = (if le x y = true then _ else _ : List α).map f
        rw [h]
        split
        · rfl
        · rw [ih]; rfl
    show ins le' (f x) (isort le' (xs.map f)) = _
    rw [isort_map h xs, q]; rfl
theorem dSorted_ints (ns : List Int) (h : ns.length ≤ 16777216) : dSorted [.lst (ns.map D.int)] = some (.f (.lst ((srt ns).map D.int))) := by
  have e : sortable (ns.map D.int) = true := by unfold sortable; rw [allInt_map]; rfl
  show (if (sortable (ns.map D.int) && small (ns.map D.int).length) = true then some (Rv.f (.lst (isort leD (ns.map D.int)))) else none) = _
  rw [e, if_pos (by simp [small, h, cd_T])]
  have q : isort leD (ns.map D.int) = (srt ns).map D.int := isort_map (fun a b => rfl) ns
  rw [q]
theorem le_total : PySem.W.TotalLe (fun a b : Int => decide (a ≤ b)) := ⟨fun a b c h1 h2 => by simp at *; omega, fun a b => by simp; omega⟩
theorem srt_perm (ns : List Int) : (srt ns).Perm ns := isort_perm ns
theorem srt_sorted (ns : List Int) : (srt ns).Pairwise (· ≤ ·) := (isort_pw le_total ns).imp fun h => of_decide_eq_true h
theorem srt_len (ns : List Int) : (srt ns).length = ns.length := (srt_perm ns).length_eq

/-! ### comprehensions -/
def cstep (tg : Gd) (tt : Sm Bool) (te : Sm Rv) (vs : List Nat) (d : D) (ρ : DEnv) : Out (Option D) :=
  nox (tg d ρ) fun _ ρ1 => nox (tt ρ1) fun b ρ2 => if b = true then nox (te ρ2) fun r ρ3 => match frz r ρ3 with
    | some (e, ρ4) => .ok (some e) (wipeE ρ4 vs)
    | none => .bad
  else .ok none (wipeE ρ2 vs)
theorem compGo_step {src : Option (Nat × D)} {tg : Gd} {tt : Sm Bool} {te : Sm Rv} {vs : List Nat} {d : D} {ds acc : List D} {ρ ρ' : DEnv} {e : Option D} (hs : srcChk vs ρ src = true) (h : cstep tg tt te vs d ρ = .ok e ρ') (hl : acc.length + 1 ≤ 16777216) :
    compGo src tg tt te vs (d :: ds) acc ρ = compGo src tg tt te vs ds (acc ++ e.toList) ρ' := by
  conv => lhs; unfold compGo
  rw [if_pos hs]
  unfold cstep at h
  cases h1 : tg d ρ with
  | bad => rw [h1] at h; cases h
  | exc y ρ1 => rw [h1] at h; cases h
  | ok u ρ1 =>
    rw [h1] at h
    simp only [nox] at h ⊢
    cases h2 : tt ρ1 with
    | bad => rw [h2] at h; cases h
    | exc y ρ1 => rw [h2] at h; cases h
    | ok b ρ2 =>
      rw [h2] at h
      simp only at h ⊢
      cases b with
      | false =>
        rw [if_neg Bool.false_ne_true] at h ⊢
        cases h
        simp
      | true =>
        rw [if_pos rfl] at h ⊢
        cases h3 : te ρ2 with
        | bad => rw [h3] at h; cases h
        | exc y ρ1 => rw [h3] at h; cases h
        | ok r ρ3 =>
          rw [h3] at h
          simp only at h ⊢
          cases h4 : frz r ρ3 with
          | none => rw [h4] at h; cases h
          | some p =>
            obtain ⟨x, ρ4⟩ := p
            rw [h4] at h
            simp only at h ⊢
            cases h
            rw [if_pos (by simp [small, hl, cd_T])]
            rfl
theorem compGo_pure {src : Option (Nat × D)} {tg : Gd} {tt : Sm Bool} {te : Sm Rv} {vs : List Nat} {ρ : DEnv} {f : D → Option D} (hs : srcChk vs ρ src = true) :
    ∀ {l acc : List D}, (∀ d ∈ l, cstep tg tt te vs d ρ = .ok (f d) ρ) → acc.length + l.length ≤ 16777216 → compGo src tg tt te vs l acc ρ = .ok (acc ++ l.filterMap f) ρ
  | [], acc, _, _ => by unfold compGo; rw [if_pos hs]; simp
  | d :: ds, acc, h, hl => by
    rw [List.length_cons] at hl
    rw [compGo_step hs (h d List.mem_cons_self) (by omega), compGo_pure hs (fun d hd => h d (List.mem_cons_of_mem _ hd))]
    · cases e : f d <;> simp [e]
    · cases f d <;> simp <;> omega
theorem back_wipe {ρ : DEnv} {vs : List Nat} : backE (wipeE ρ vs) ρ vs = ρ := by
  apply List.ext_getElem?
  intro i
  rw [backE_get (by rw [wipeE_len]), wipeE_get]
  split <;> rfl
theorem sLc_pure {it : Sm Src} {src : Option (Nat × D)} {l : List D} {tg : Gd} {tt : Sm Bool} {te : Sm Rv} {vs : List Nat} {ρ ρ1 : DEnv} (f : D → Option D) (hi : it ρ = .ok (l, src) ρ1) (hs : srcChk vs (wipeE ρ1 vs) src = true)
    (h : ∀ d ∈ l, cstep tg tt te vs d (wipeE ρ1 vs) = .ok (f d) (wipeE ρ1 vs)) (hl : l.length ≤ 16777216) : sLc it tg tt te vs ρ = .ok (.f (.lst (l.filterMap f))) ρ1 := by
  unfold sLc
  rw [hi]
  show nox (compGo src tg tt te vs l [] (wipeE ρ1 vs)) _ = _
  rw [compGo_pure hs h (by simpa using hl)]
  show Out.ok _ (backE (wipeE ρ1 vs) ρ1 vs) = _
  rw [back_wipe]; rfl
theorem compGo_of {α : Type} {src : Option (Nat × D)} {tg : Gd} {tt : Sm Bool} {te : Sm Rv} {vs : List Nat} {ρ : DEnv} {F : α → D} {p : α → Bool} {g : α → D} (hs : srcChk vs ρ src = true) :
    ∀ {l : List α} {acc : List D}, (∀ x ∈ l, cstep tg tt te vs (F x) ρ = .ok (if p x = true then some (g x) else none) ρ) → acc.length + l.length ≤ 16777216 → compGo src tg tt te vs (l.map F) acc ρ = .ok (acc ++ (l.filter p).map g) ρ
  | [], acc, _, _ => by unfold compGo; rw [List.map_nil]; dsimp only; rw [if_pos hs]; simp
  | d :: ds, acc, h, hl => by
    rw [List.length_cons] at hl
    rw [List.map_cons, compGo_step hs (h d List.mem_cons_self) (by omega), compGo_of hs (fun d hd => h d (List.mem_cons_of_mem _ hd)), List.filter_cons]
    · cases p d <;> simp
    · cases p d <;> simp <;> omega
/-- over any items, read by F -/
theorem sLc_of {α : Type} {it : Sm Src} {src : Option (Nat × D)} {l : List α} {tg : Gd} {tt : Sm Bool} {te : Sm Rv} {vs : List Nat} {ρ ρ1 : DEnv} (F : α → D) (p : α → Bool) (g : α → D) (hi : it ρ = .ok (l.map F, src) ρ1) (hs : srcChk vs (wipeE ρ1 vs) src = true)
    (h : ∀ x ∈ l, cstep tg tt te vs (F x) (wipeE ρ1 vs) = .ok (if p x = true then some (g x) else none) (wipeE ρ1 vs)) (hl : l.length ≤ 16777216) : sLc it tg tt te vs ρ = .ok (.f (.lst ((l.filter p).map g))) ρ1 := by
  unfold sLc
  rw [hi]
  show nox (compGo src tg tt te vs (l.map F) [] (wipeE ρ1 vs)) _ = _
  rw [compGo_of hs h (by simpa using hl)]
  show Out.ok _ (backE (wipeE ρ1 vs) ρ1 vs) = _
  rw [back_wipe]; rfl
/-- a comprehension that goes along a state: P n ρ acc, n items done -/
theorem compGo_inv {src : Option (Nat × D)} {tg : Gd} {tt : Sm Bool} {te : Sm Rv} {vs : List Nat} (P : List D → DEnv → Prop) {l : List D} (hs : ∀ acc ρ, P acc ρ → srcChk vs ρ src = true)
    (h : ∀ d ∈ l, ∀ acc ρ, P acc ρ → ∃ e ρ', cstep tg tt te vs d ρ = .ok e ρ' ∧ P (acc ++ e.toList) ρ') : ∀ {acc : List D} {ρ : DEnv}, P acc ρ → acc.length + l.length ≤ 16777216 → ∃ acc' ρ', compGo src tg tt te vs l acc ρ = .ok acc' ρ' ∧ P acc' ρ' ∧ acc'.length ≤ acc.length + l.length := by
  induction l with
  | nil => intro acc ρ p _; exact ⟨acc, ρ, by unfold compGo; rw [if_pos (hs _ _ p)], p, by simp⟩
  | cons d ds ih =>
    intro acc ρ p hl
    rw [List.length_cons] at hl
    obtain ⟨e, ρ', e1, p'⟩ := h d List.mem_cons_self acc ρ p
    rw [compGo_step (hs _ _ p) e1 (by omega)]
    obtain ⟨acc', ρ2, e2, p2, l2⟩ := ih (fun d hd => h d (List.mem_cons_of_mem _ hd)) p' (by cases e <;> simp <;> omega)
    refine ⟨acc', ρ2, e2, p2, ?_⟩
    rw [List.length_cons]
    cases e <;> simp at l2 <;> omega

/-! ### steps -/
section
variable {f g : Sm Fl} {t u : Sm Bool} {ρ ρ1 : DEnv}
theorem sSeq_nx (h : f ρ = .ok .nx ρ1) : sSeq f g ρ = g ρ1 := by unfold sSeq; rw [h]; rfl
theorem sSeq_ret {r : Rv} (h : f ρ = .ok (.ret r) ρ1) : sSeq f g ρ = .ok (.ret r) ρ1 := by unfold sSeq; rw [h]; rfl
theorem sIf_no (h : t ρ = .ok false ρ1) : sIfS t f g ρ = g ρ1 := by unfold sIfS; rw [h]; rfl
theorem sIf_yes (h : t ρ = .ok true ρ1) : sIfS t f g ρ = f ρ1 := by unfold sIfS; rw [h]; rfl
theorem sIf_nx (h : t ρ = .ok false ρ1) : sIfS t f sNx ρ = .ok .nx ρ1 := sIf_no h
theorem tOr_f (h : t ρ = .ok false ρ1) : tOr' t u ρ = u ρ1 := by unfold tOr'; rw [h]; rfl
theorem tOr_t (h : t ρ = .ok true ρ1) : tOr' t u ρ = .ok true ρ1 := by unfold tOr'; rw [h]; rfl
theorem tAnd_f (h : t ρ = .ok false ρ1) : tAnd' t u ρ = .ok false ρ1 := by unfold tAnd'; rw [h]; rfl
theorem tAnd_t (h : t ρ = .ok true ρ1) : tAnd' t u ρ = u ρ1 := by unfold tAnd'; rw [h]; rfl
theorem tNot_f (h : t ρ = .ok true ρ1) : tNot' t ρ = .ok false ρ1 := by unfold tNot'; rw [h]; rfl
theorem tNot_t (h : t ρ = .ok false ρ1) : tNot' t ρ = .ok true ρ1 := by unfold tNot'; rw [h]; rfl
/-- a def that returns -/
theorem sFun_ret {n N : Nat} {io : Bool} {r : Rv} (h : f (ρ ++ List.replicate (N - n) .no) = .ok (.ret r) ρ1) (hr : ∀ i, r ≠ .l i) : sFun n N io f ρ = .ok r (finE n io ρ1) := by
  unfold sFun
  rw [h]
  cases r with
  | l i => exact absurd rfl (hr i)
  | v d => rfl
  | f d => rfl
end
theorem sLc_inv {it : Sm Src} {src : Option (Nat × D)} {tg : Gd} {tt : Sm Bool} {te : Sm Rv} {vs : List Nat} {ρ ρ1 : DEnv} (P : List D → DEnv → Prop) {l : List D} (hi : it ρ = .ok (l, src) ρ1) (hs : ∀ acc ρ, P acc ρ → srcChk vs ρ src = true)
    (h : ∀ d ∈ l, ∀ acc ρ, P acc ρ → ∃ e ρ', cstep tg tt te vs d ρ = .ok e ρ' ∧ P (acc ++ e.toList) ρ') (h0 : P [] (wipeE ρ1 vs)) (hl : l.length ≤ 16777216) : ∃ acc ρ2, sLc it tg tt te vs ρ = .ok (.f (.lst acc)) (backE ρ2 ρ1 vs) ∧ P acc ρ2 ∧ acc.length ≤ l.length := by
  obtain ⟨acc, ρ2, e, p, q⟩ := compGo_inv P hs h h0 (by simpa using hl)
  refine ⟨acc, ρ2, ?_, p, by simpa using q⟩
  unfold sLc
  rw [hi]
  show nox (compGo src tg tt te vs l [] (wipeE ρ1 vs)) _ = _
  rw [e]; rfl
theorem sSl_take {f g : Sm Rv} {r q : Rv} {ρ : DEnv} {ns : List D} {k : Nat} (hf : f ρ = .ok r ρ) (hg : g ρ = .ok q ρ) (hr : deref r ρ = some (.lst ns)) (hq : deref q ρ = some (.int (k : Int))) : sSl f (pPart none) (pPart (some g)) ρ = .ok (.f (.lst (ns.take k))) ρ := by
  have e : dSl (.lst ns) none (some (k : Int)) = some (.f (.lst (ns.take k))) := by
    show some (Rv.f (.lst (cutL ns none (some (k : Int))))) = _
    unfold cutL
    rw [HT.sIx_none]
    rw [show HT.sIx ns.length ns.length (some (k : Int)) = min k ns.length from HT.sIx_nat ns.length ns.length k]
    rw [List.drop_zero, Nat.sub_zero]
    have : ns.take (min k ns.length) = ns.take k := by rw [List.take_eq_take_iff]; omega
    rw [this]
  simp [sSl, pPart, bnd, hf, hg, hr, hq, e]

/-! ### loops -/
theorem forGo_inv {src : Option (Nat × D)} {tg : Gd} {body : Sm Fl} (P : Nat → DEnv → Prop) : ∀ {l : List D} {k : Nat} {ρ : DEnv}, (∀ i ρ, P i ρ → srcChk [] ρ src = true) →
    (∀ i d ρ, l[i]? = some d → P (k + i) ρ → ∃ r ρ', (bnd (tg d ρ) fun _ ρ1 => body ρ1) = .ok r ρ' ∧ (r = .nx ∨ r = .cnt) ∧ P (k + i + 1) ρ') → P k ρ → ∃ ρ', forGo src tg body l ρ = .ok .nx ρ' ∧ P (k + l.length) ρ'
  | [], k, ρ, hs, _, p => ⟨ρ, by unfold forGo; rw [if_pos (hs _ _ p)], p⟩
  | d :: ds, k, ρ, hs, h, p => by
    obtain ⟨r, ρ1, e1, e2, p1⟩ := h 0 d ρ rfl p
    obtain ⟨ρ2, e3, p2⟩ := forGo_inv P (l := ds) (k := k + 1) (ρ := ρ1) hs (fun i d ρ hd hp => by
      have := h (i + 1) d ρ (by simpa using hd) (by rw [show k + (i + 1) = k + 1 + i by omega]; exact hp)
      rw [show k + (i + 1) + 1 = k + 1 + i + 1 by omega] at this
      exact this) p1
    refine ⟨ρ2, ?_, by rw [List.length_cons, show k + (ds.length + 1) = k + 1 + ds.length by omega]; exact p2⟩
    unfold forGo
    rw [if_pos (hs _ _ p)]
    cases h1 : tg d ρ with
    | bad => rw [h1] at e1; cases e1
    | exc y ρ1 => rw [h1] at e1; cases e1
    | ok u ρ3 =>
      rw [h1] at e1
      have e1 : body ρ3 = .ok r ρ1 := e1
      simp only [bnd]
      rw [e1]
      rcases e2 with rfl | rfl
      · exact e3
      · exact e3
theorem sFor_go {fxL : Nat → Bool} {it : Sm Src} {tg : Gd} {body : Sm Fl} {l : List D} {ρ ρ1 : DEnv} {o : Out Fl} (hi : it ρ = .ok (l, none) ρ1) (e : forGo none tg body l ρ1 = o) : sFor fxL it tg body ρ = o := by
  unfold sFor
  rw [hi]; exact e
theorem sFor_inv {fxL : Nat → Bool} {it : Sm Src} {tg : Gd} {body : Sm Fl} {l : List D} {ρ ρ1 : DEnv} (P : Nat → DEnv → Prop) (hi : it ρ = .ok (l, none) ρ1)
    (h : ∀ i d ρ, l[i]? = some d → P i ρ → ∃ r ρ', (bnd (tg d ρ) fun _ ρ1 => body ρ1) = .ok r ρ' ∧ (r = .nx ∨ r = .cnt) ∧ P (i + 1) ρ') (h0 : P 0 ρ1) : ∃ ρ', sFor fxL it tg body ρ = .ok .nx ρ' ∧ P l.length ρ' := by
  obtain ⟨ρ', e, p⟩ := forGo_inv (src := none) (tg := tg) (body := body) P (l := l) (k := 0) (ρ := ρ1) (fun _ _ _ => rfl) (fun i d ρ hd hp => by
    rw [Nat.zero_add] at hp ⊢
    exact h i d ρ hd hp) h0
  rw [Nat.zero_add] at p
  exact ⟨ρ', sFor_go hi e, p⟩
theorem iR1_ok {f : Sm Rv} {r : Rv} {ρ ρ1 : DEnv} {n : Int} (h : f ρ = .ok r ρ1) (hd : deref r ρ1 = some (.int n)) (h0 : 0 ≤ n) (h1 : n ≤ 1000000000) : iRange1 f ρ = .ok (upFrom 0 n.toNat, none) ρ1 := by
  have q : rngOk n = true := cd_true ⟨by omega, by omega⟩
  unfold iRange1
  rw [h]
  simp only [bnd, hd, q, if_true]
theorem upFrom_get' {lo : Int} {n i : Nat} {d : D} (h : (upFrom lo n)[i]? = some d) : i < n ∧ d = .int (lo + i) := by
  have hi : i < n := by
    have := (List.getElem?_eq_some_iff.mp h).1
    rwa [upFrom_len] at this
  rw [upFrom_get hi] at h
  cases h; exact ⟨hi, rfl⟩
theorem whGo_inv {t : Sm Bool} {body : Sm Fl} (P : Nat → DEnv → Prop) {n : Nat} (h : ∀ m ρ, P m ρ → (∃ ρ1, t ρ = .ok false ρ1 ∧ P 0 ρ1) ∨ ∃ ρ1 r ρ2 m', t ρ = .ok true ρ1 ∧ body ρ1 = .ok r ρ2 ∧ (r = .nx ∨ r = .cnt) ∧ m' < m ∧ P m' ρ2) :
    ∀ {m : Nat} {ρ : DEnv}, P m ρ → m < n → ∃ ρ', whGo t body n ρ = .ok .nx ρ' ∧ P 0 ρ' := by
  induction n with
  | zero => intro m ρ _ hm; omega
  | succ n ih =>
    intro m ρ p hm
    rcases h m ρ p with ⟨ρ1, e1, p1⟩ | ⟨ρ1, r, ρ2, m', e1, e2, e3, hm', p2⟩
    · refine ⟨ρ1, ?_, p1⟩
      unfold whGo
      rw [e1]; rfl
    · obtain ⟨ρ3, e4, p3⟩ := ih p2 (by omega)
      refine ⟨ρ3, ?_, p3⟩
      unfold whGo
      rw [e1]
      show bnd (body ρ1) _ = _
      rw [e2]
      rcases e3 with rfl | rfl
      · exact e4
      · exact e4
end L2.DL

/-! what the defs of the text mean -/
namespace L2.DL.W
open PySem PySem.Spec PyProof.Rows L2 L2.DL

def topS (i : Nat) : Stmt := PySem.Challenge.pw_citedback_k43_whole_many_counts.main.body.getD i (.Pass ⟨0, 0, 0, 0⟩)
structure Env (K : PySem.W.Frag) (mg : MG) : Prop where
  z_abs : mg "abs" = none
  z_all : mg "all" = none
  z_bool : mg "bool" = none
  z_enumerate : mg "enumerate" = none
  z_int : mg "int" = none
  z_isinstance : mg "isinstance" = none
  z_len : mg "len" = none
  z_list : mg "list" = none
  z_max : mg "max" = none
  z_min : mg "min" = none
  z_range : mg "range" = none
  z_reversed : mg "reversed" = none
  z_sorted : mg "sorted" = none
  z_sum : mg "sum" = none
  c_HIGHEST : ∃ t, mg "HIGHEST" = some (.int 1000000 t)
  c_MOST_COUNTS : ∃ t, mg "MOST_COUNTS" = some (.int 500 t)
  c_MOST_H : ∃ t, mg "MOST_H" = some (.int 200 t)
  c_MOST_ROWS : ∃ t, mg "MOST_ROWS" = some (.int 50 t)
  c_STEP_OF_W : ∃ t, mg "STEP_OF_W" = some (.int 10 t)
  f__law_take : ∃ f fd, Fun K "_law_take" "_law_take" (topS 40) f fd ∧ mg "_law_take" = some (.ref f)
  f__law_pick : ∃ f fd, Fun K "_law_pick" "_law_pick" (topS 41) f fd ∧ mg "_law_pick" = some (.ref f)
  f__law_counts : ∃ f fd, Fun K "_law_counts" "_law_counts" (topS 44) f fd ∧ mg "_law_counts" = some (.ref f)
  f__law_draws : ∃ f fd, Fun K "_law_draws" "_law_draws" (topS 39) f fd ∧ mg "_law_draws" = some (.ref f)
  f_check : ∃ f fd, Fun K "check" "check" (topS 6) f fd ∧ mg "check" = some (.ref f)
  f_is_integer : ∃ f fd, Fun K "is_integer" "is_integer" (topS 4) f fd ∧ mg "is_integer" = some (.ref f)
  f_is_within : ∃ f fd, Fun K "is_within" "is_within" (topS 5) f fd ∧ mg "is_within" = some (.ref f)
  f_are_counts : ∃ f fd, Fun K "are_counts" "are_counts" (topS 16) f fd ∧ mg "are_counts" = some (.ref f)
  f_check_counts : ∃ f fd, Fun K "check_counts" "check_counts" (topS 17) f fd ∧ mg "check_counts" = some (.ref f)
  f_is_count : ∃ f fd, Fun K "is_count" "is_count" (topS 9) f fd ∧ mg "is_count" = some (.ref f)
  f_at_least : ∃ f fd, Fun K "at_least" "at_least" (topS 34) f fd ∧ mg "at_least" = some (.ref f)
  f_falling : ∃ f fd, Fun K "falling" "falling" (topS 18) f fd ∧ mg "falling" = some (.ref f)
  f_h_by : ∃ f fd, Fun K "h_by" "h_by" (topS 19) f fd ∧ mg "h_by" = some (.ref f)
  f_core_of : ∃ f fd, Fun K "core_of" "core_of" (topS 24) f fd ∧ mg "core_of" = some (.ref f)
  f_g_by : ∃ f fd, Fun K "g_by" "g_by" (topS 20) f fd ∧ mg "g_by" = some (.ref f)
  f_g_of : ∃ f fd, Fun K "g_of" "g_of" (topS 22) f fd ∧ mg "g_of" = some (.ref f)
  f_h_of : ∃ f fd, Fun K "h_of" "h_of" (topS 21) f fd ∧ mg "h_of" = some (.ref f)
  f_tail_of : ∃ f fd, Fun K "tail_of" "tail_of" (topS 25) f fd ∧ mg "tail_of" = some (.ref f)
  f_takes_h : ∃ f fd, Fun K "takes_h" "takes_h" (topS 37) f fd ∧ mg "takes_h" = some (.ref f)
  f_w_of : ∃ f fd, Fun K "w_of" "w_of" (topS 23) f fd ∧ mg "w_of" = some (.ref f)
  f__law_is_measured : ∃ f fd, Fun K "_law_is_measured" "_law_is_measured" (topS 45) f fd ∧ mg "_law_is_measured" = some (.ref f)
  f_lacking : ∃ f fd, Fun K "lacking" "lacking" (topS 26) f fd ∧ mg "lacking" = some (.ref f)
  f_most_h : ∃ f fd, Fun K "most_h" "most_h" (topS 29) f fd ∧ mg "most_h" = some (.ref f)
  f_best_putting : ∃ f fd, Fun K "best_putting" "best_putting" (topS 31) f fd ∧ mg "best_putting" = some (.ref f)
  f_h_with : ∃ f fd, Fun K "h_with" "h_with" (topS 30) f fd ∧ mg "h_with" = some (.ref f)
  f_next_step : ∃ f fd, Fun K "next_step" "next_step" (topS 27) f fd ∧ mg "next_step" = some (.ref f)
  f__law_is_put : ∃ f fd, Fun K "_law_is_put" "_law_is_put" (topS 46) f fd ∧ mg "_law_is_put" = some (.ref f)
  f_least_counts : ∃ f fd, Fun K "least_counts" "least_counts" (topS 28) f fd ∧ mg "least_counts" = some (.ref f)
  f_shared : ∃ f fd, Fun K "shared" "shared" (topS 7) f fd ∧ mg "shared" = some (.ref f)
  f_ratio : ∃ f fd, Fun K "ratio" "ratio" (topS 8) f fd ∧ mg "ratio" = some (.ref f)
  f_mean_of : ∃ f fd, Fun K "mean_of" "mean_of" (topS 32) f fd ∧ mg "mean_of" = some (.ref f)
  f_middle_of : ∃ f fd, Fun K "middle_of" "middle_of" (topS 33) f fd ∧ mg "middle_of" = some (.ref f)
  f_ranks : ∃ f fd, Fun K "ranks" "ranks" (topS 35) f fd ∧ mg "ranks" = some (.ref f)
  f_law : ∃ f fd, Fun K "law" "law" (topS 47) f fd ∧ mg "law" = some (.ref f)
section
variable {P : Program} {w : World} {K : PySem.W.Frag} {mg : MG} {base : Heap}
noncomputable def g__law_take : Sm Fl := sSeq (sIfS (tCmp' dEq (sBlt dLen (aCons (sVar 0) (aNil))) (sLit (.int 0))) (sRet (fxs [0]) (sLit (.int 0))) (sNx)) (sRet (fxs [0]) (sBin dMod (sBlt dInt (aCons (sPop (sVar 0)) (aNil))) (sVar 1)))
noncomputable def F__law_take : Sm Rv := sFun 2 2 true g__law_take
theorem S__law_take : FnScope ["draws", "bound"] ["draws", "bound"] (defScope (topS 40)) := ⟨rfl, rfl, rfl, by decide +kernel, rfl, by decide +kernel, by decide +kernel⟩
theorem B__law_take (E : Env K mg) : ∀ f fd, Fun K "_law_take" "_law_take" (topS 40) f fd → FnOk P w K mg base (L2.CX P w) 1 f fd ["draws", "bound"] (spD K mg 2 F__law_take) := by
  have hN := S__law_take.nd
  exact fn_all (l := [0]) S__law_take rfl (fun i h => by unfold fxOf at h; simp at h; subst h; rfl) fun f cdv A outer s H W hr =>
    db_cons (ds_if (qtcmp (sd_eq (hu64 hr)) (qblt sn_len E.z_len (qacons (qv 0) (da_nil))) (de_int)) (db_one (ds_ret (de_int))) (db_nil)) (db_one (ds_ret (de_bin sd_mod (qty sn_int E.z_int (qacons (qpop (qv 0)) (da_nil))) (qv 1))))
theorem C__law_take (E : Env K mg) : CalOk P w K mg base 1 "_law_take" 2 F__law_take := cal_of E.f__law_take rfl (B__law_take E) (fun _ _ _ _ _ _ us hl => match us, hl with | [_, _], _ => rfl)
noncomputable def g__law_pick : Sm Fl := sRet (fxs [0]) (sBin dIx (sVar 1) (sCallIO 2 F__law_take (aCons (sVar 0) (aCons (sBlt dLen (aCons (sVar 1) (aNil))) (aNil)))))
noncomputable def F__law_pick : Sm Rv := sFun 2 2 true g__law_pick
theorem S__law_pick : FnScope ["draws", "some"] ["draws", "some"] (defScope (topS 41)) := ⟨rfl, rfl, rfl, by decide +kernel, rfl, by decide +kernel, by decide +kernel⟩
theorem B__law_pick (E : Env K mg) : ∀ f fd, Fun K "_law_pick" "_law_pick" (topS 41) f fd → FnOk P w K mg base (L2.CX P w) 2 f fd ["draws", "some"] (spD K mg 2 F__law_pick) := by
  have C__law_take := C__law_take (P := P) (w := w) (base := base) E
  have hN := S__law_pick.nd
  exact fn_all (l := [0]) S__law_pick rfl (fun i h => by unfold fxOf at h; simp at h; subst h; rfl) fun f cdv A outer s H W hr =>
    db_one (ds_ret (qix si_ix (qv 1) (qcallIO C__law_take hr (qacons (qv 0) (qacons (qblt sn_len E.z_len (qacons (qv 1) (da_nil))) (da_nil))))))
theorem C__law_pick (E : Env K mg) : CalOk P w K mg base 2 "_law_pick" 2 F__law_pick := cal_of E.f__law_pick rfl (B__law_pick E) (fun _ _ _ _ _ _ us hl => match us, hl with | [_, _], _ => rfl)
noncomputable def g__law_counts : Sm Fl := sSeq (sAsg (rN 2) (sCallIO 2 F__law_pick (aCons (sVar 0) (aCons (sLst (aCons (sLit (.int 5)) (aCons (sLit (.int 40)) (aCons (sLit (.int 1000)) (aCons (sBin dAdd (sBin dPow (sLit (.int 10)) (sLit (.int 6))) (sLit (.int 1))) (aNil)))))) (aNil))))) (sRet (fxs [0]) (sLc (iRange1 (sCallIO 2 F__law_take (aCons (sVar 0) (aCons (sBin dAdd (sVar 1) (sLit (.int 1))) (aNil))))) (gN 3) (tYesD) (sCallIO 2 F__law_take (aCons (sVar 0) (aCons (sVar 2) (aNil)))) [3]))
noncomputable def F__law_counts : Sm Rv := sFun 2 4 true g__law_counts
theorem S__law_counts : FnScope ["draws", "most", "great", "k"] ["draws", "most"] (defScope (topS 44)) := ⟨rfl, rfl, rfl, by decide +kernel, rfl, by decide +kernel, by decide +kernel⟩
theorem B__law_counts (E : Env K mg) : ∀ f fd, Fun K "_law_counts" "_law_counts" (topS 44) f fd → FnOk P w K mg base (L2.CX P w) 3 f fd ["draws", "most"] (spD K mg 2 F__law_counts) := by
  have C__law_pick := C__law_pick (P := P) (w := w) (base := base) E
  have C__law_take := C__law_take (P := P) (w := w) (base := base) E
  have hN := S__law_counts.nd
  exact fn_all (l := [0]) S__law_counts rfl (fun i h => by unfold fxOf at h; simp at h; subst h; rfl) fun f cdv A outer s H W hr =>
    db_cons (qset 2 hN (qcallIO C__law_pick hr (qacons (qv 0) (qacons (de_lst (qacons (de_int) (qacons (de_int) (qacons (de_int) (qacons (de_bin sd_add (de_bin sd_pow (de_int) (de_int)) (de_int)) (da_nil)))))) (da_nil))))) (db_one (ds_ret (qlc [("k", 3)] rfl hN (qir1 E.z_range (qcallIO C__law_take hr (qacons (qv 0) (qacons (de_bin sd_add (qv 1) (de_int)) (da_nil))))) (fun _ _ _ _ _ => qgn 3 hN) (fun _ _ _ _ _ => dts_nil) (fun _ _ _ _ _ => qcallIO C__law_take hr (qacons (qv 0) (qacons (qv 2) (da_nil)))))))
theorem C__law_counts (E : Env K mg) : CalOk P w K mg base 3 "_law_counts" 2 F__law_counts := cal_of E.f__law_counts rfl (B__law_counts E) (fun _ _ _ _ _ _ us hl => match us, hl with | [_, _], _ => rfl)
noncomputable def g__law_draws : Sm Fl := sSeq (sAsg (rN 1) (sLst (aNil))) (sSeq (sFor (fxs [0]) (iAny (sVar 0)) (gN 2) (sSeq (sAsg (rN 3) (sBin dMod (sBlt dInt (aCons (sBlt dAbs (aCons (sVar 2) (aNil))) (aNil))) (sBin dPow (sLit (.int 997)) (sLit (.int 60))))) (sSeq (sIfS (tCmp' dLt (sVar 3) (sBin dPow (sLit (.int 10)) (sLit (.int 18)))) (sSeq (sAsg (rN 4) (sBin dMod (sBlt dInt (aCons (sBin dAdd (sBin dMul (sVar 3) (sLit (.int 48271))) (sLit (.int 11))) (aNil))) (sLit (.int 2147483647)))) (sSeq (sDrop (sAppend (sVar 1) (sBin dMod (sBlt dInt (aCons (sBin dAdd (sBin dMul (sVar 4) (sLit (.int 69621))) (sVar 3)) (aNil))) (sLit (.int 2147483629))))) (sSeq (sDrop (sAppend (sVar 1) (sBin dMod (sBlt dInt (aCons (sBin dAdd (sVar 4) (sBin dDiv (sVar 3) (sLit (.int 7)))) (aNil))) (sLit (.int 1000003))))) (sAsg (rN 3) (sLit (.int 0)))))) (sNx)) (sFor (fxs [0]) (iRange1 (sLit (.int 60))) (gN 5) (sIfS (tCmp' dGt (sVar 3) (sLit (.int 0))) (sSeq (sDrop (sAppend (sVar 1) (sBin dMod (sBlt dInt (aCons (sVar 3) (aNil))) (sLit (.int 997))))) (sAsg (rN 3) (sBin dDiv (sVar 3) (sLit (.int 997))))) (sNx)))))) (sSeq (sAsg (rN 6) (sLit (.int 1))) (sSeq (sIfS (tCmp' dGt (sBlt dLen (aCons (sVar 0) (aNil))) (sLit (.int 0))) (sAsg (rN 6) (sBin dAdd (sLit (.int 1)) (sBlt dAbs (aCons (sBin dIx (sVar 0) (sLit (.int 0))) (aNil))))) (sNx)) (sSeq (sFor (fxs []) (iRange1 (sLit (.int 9000))) (gN 5) (sSeq (sAsg (rN 6) (sBin dMod (sBlt dInt (aCons (sBin dAdd (sBin dMul (sVar 6) (sLit (.int 48271))) (sLit (.int 69621))) (aNil))) (sLit (.int 2147483647)))) (sDrop (sAppend (sVar 1) (sBin dDiv (sVar 6) (sLit (.int 5))))))) (sRet (fxs []) (sLstRev (sVar 1)))))))
noncomputable def F__law_draws : Sm Rv := sFun 1 7 false g__law_draws
theorem S__law_draws : FnScope ["script", "draws", "cell", "number", "first", "k", "seed"] ["script"] (defScope (topS 39)) := ⟨rfl, rfl, rfl, by decide +kernel, rfl, by decide +kernel, by decide +kernel⟩
theorem B__law_draws (E : Env K mg) : ∀ f fd, Fun K "_law_draws" "_law_draws" (topS 39) f fd → FnOk P w K mg base (L2.CX P w) 1 f fd ["script"] (spD K mg 1 F__law_draws) := by
  have hN := S__law_draws.nd
  exact fn_all (l := []) S__law_draws rfl (fun i h => by simp [fxOf] at h) fun f cdv A outer s H W hr =>
    db_cons (qset 1 hN (de_lst (da_nil))) (db_cons (qfor (passes_of rfl) rfl fxs_cons (di_any (qv 0)) (qgn 2 hN) (db_cons (qset 3 hN (de_bin sd_mod (qty sn_int E.z_int (qacons (qblt sn_abs E.z_abs (qacons (qv 2) (da_nil))) (da_nil))) (de_bin sd_pow (de_int) (de_int)))) (db_cons (ds_if (qtcmp (sd_lt (hu64 hr)) (qv 3) (de_bin sd_pow (de_int) (de_int))) (db_cons (qset 4 hN (de_bin sd_mod (qty sn_int E.z_int (qacons (de_bin sd_add (de_bin sd_mul (qv 3) (de_int)) (de_int)) (da_nil))) (de_int))) (db_cons (qexpr (qappend (qv 1) (de_bin sd_mod (qty sn_int E.z_int (qacons (de_bin sd_add (de_bin sd_mul (qv 4) (de_int)) (qv 3)) (da_nil))) (de_int)))) (db_cons (qexpr (qappend (qv 1) (de_bin sd_mod (qty sn_int E.z_int (qacons (de_bin sd_add (qv 4) (de_bin sd_div (qv 3) (de_int))) (da_nil))) (de_int)))) (db_one (qset 3 hN (de_int)))))) (db_nil)) (db_one (qfor (passes_of rfl) rfl fxs_same (qir1 E.z_range (de_int)) (qgn 5 hN) (db_one (ds_if (qtcmp (sd_gt (hu64 hr)) (qv 3) (de_int)) (db_cons (qexpr (qappend (qv 1) (de_bin sd_mod (qty sn_int E.z_int (qacons (qv 3) (da_nil))) (de_int)))) (db_one (qset 3 hN (de_bin sd_div (qv 3) (de_int))))) (db_nil)))))))) (db_cons (qset 6 hN (de_int)) (db_cons (ds_if (qtcmp (sd_gt (hu64 hr)) (qblt sn_len E.z_len (qacons (qv 0) (da_nil))) (de_int)) (db_one (qset 6 hN (de_bin sd_add (de_int) (qblt sn_abs E.z_abs (qacons (qix si_ix (qv 0) (de_int)) (da_nil)))))) (db_nil)) (db_cons (qfor (passes_of rfl) rfl fxs_same (qir1 E.z_range (de_int)) (qgn 5 hN) (db_cons (qset 6 hN (de_bin sd_mod (qty sn_int E.z_int (qacons (de_bin sd_add (de_bin sd_mul (qv 6) (de_int)) (de_int)) (da_nil))) (de_int))) (db_one (qexpr (qappend (qv 1) (de_bin sd_div (qv 6) (de_int))))))) (db_one (ds_ret (qlrev rfl E.z_list E.z_reversed (qv 1))))))))
theorem C__law_draws (E : Env K mg) : CalOk P w K mg base 1 "_law_draws" 1 F__law_draws := cal_of E.f__law_draws rfl (B__law_draws E) (fun _ _ _ _ _ _ us hl => match us, hl with | [_], _ => rfl)
noncomputable def g_check : Sm Fl := sIfS (tNot' (tOfS (sVar 0))) (sBad) (sNx)
noncomputable def F_check : Sm Rv := sFun 1 1 false g_check
theorem S_check : FnScope ["is_right"] ["is_right"] (defScope (topS 6)) := ⟨rfl, rfl, rfl, by decide +kernel, rfl, by decide +kernel, by decide +kernel⟩
theorem B_check (E : Env K mg) : ∀ f fd, Fun K "check" "check" (topS 6) f fd → FnOk P w K mg base (L2.CX P w) 1 f fd ["is_right"] (spD K mg 1 F_check) := by
  have hN := S_check.nd
  exact fn_all (l := []) S_check rfl (fun i h => by simp [fxOf] at h) fun f cdv A outer s H W hr =>
    db_one (ds_if (dt_not (qtv (qv 0))) (db_one (ds_never)) (db_nil))
theorem C_check (E : Env K mg) : CalOk P w K mg base 1 "check" 1 F_check := cal_of E.f_check rfl (B_check E) (fun _ _ _ _ _ _ us hl => match us, hl with | [_], _ => rfl)
noncomputable def g_is_integer : Sm Fl := sRet (fxs []) (sAnd (sIsi "int" (sVar 0)) (sNot (sIsi "bool" (sVar 0))))
noncomputable def F_is_integer : Sm Rv := sFun 1 1 false g_is_integer
theorem S_is_integer : FnScope ["value"] ["value"] (defScope (topS 4)) := ⟨rfl, rfl, rfl, by decide +kernel, rfl, by decide +kernel, by decide +kernel⟩
theorem B_is_integer (E : Env K mg) : ∀ f fd, Fun K "is_integer" "is_integer" (topS 4) f fd → FnOk P w K mg base (L2.CX P w) 1 f fd ["value"] (spD K mg 1 F_is_integer) := by
  have hN := S_is_integer.nd
  exact fn_all (l := []) S_is_integer rfl (fun i h => by simp [fxOf] at h) fun f cdv A outer s H W hr =>
    db_one (ds_ret (de_and (qisi E.z_isinstance E.z_int (qv 0)) (de_one (de_not (qisi E.z_isinstance E.z_bool (qv 0))))))
theorem C_is_integer (E : Env K mg) : CalOk P w K mg base 1 "is_integer" 1 F_is_integer := cal_of E.f_is_integer rfl (B_is_integer E) (fun _ _ _ _ _ _ us hl => match us, hl with | [_], _ => rfl)
noncomputable def g_is_within : Sm Fl := sRet (fxs []) (sAnd (sCall 1 F_is_integer (aCons (sVar 0) (aNil))) (sOfT (tChn dLe dLe (sVar 1) (sVar 0) (sVar 2))))
noncomputable def F_is_within : Sm Rv := sFun 3 3 false g_is_within
theorem S_is_within : FnScope ["value", "low", "high"] ["value", "low", "high"] (defScope (topS 5)) := ⟨rfl, rfl, rfl, by decide +kernel, rfl, by decide +kernel, by decide +kernel⟩
theorem B_is_within (E : Env K mg) : ∀ f fd, Fun K "is_within" "is_within" (topS 5) f fd → FnOk P w K mg base (L2.CX P w) 2 f fd ["value", "low", "high"] (spD K mg 3 F_is_within) := by
  have C_is_integer := C_is_integer (P := P) (w := w) (base := base) E
  have hN := S_is_within.nd
  exact fn_all (l := []) S_is_within rfl (fun i h => by simp [fxOf] at h) fun f cdv A outer s H W hr =>
    db_one (ds_ret (de_and (qcall C_is_integer hr (qacons (qv 0) (da_nil))) (de_one (qchn (sd_le (hu64 hr)) (sd_le (hu64 hr)) (qv 1) (qv 0) (qv 2)))))
theorem C_is_within (E : Env K mg) : CalOk P w K mg base 2 "is_within" 3 F_is_within := cal_of E.f_is_within rfl (B_is_within E) (fun _ _ _ _ _ _ us hl => match us, hl with | [_, _, _], _ => rfl)
noncomputable def g_are_counts : Sm Fl := sSeq (sIfS (tOr' (tNot' (tOfS (sIsi "list" (sVar 0)))) (tCmp' dGt (sBlt dLen (aCons (sVar 0) (aNil))) (sLit (.int 500)))) (sRet (fxs []) (sLit (.bl false))) (sNx)) (sRet (fxs []) (sBlt dAll (aCons (sLc (iAny (sVar 0)) (gN 1) (tYesD) (sCall 3 F_is_within (aCons (sVar 1) (aCons (sLit (.int 0)) (aCons (sLit (.int 1000000)) (aNil))))) [1]) (aNil))))
noncomputable def F_are_counts : Sm Rv := sFun 1 2 false g_are_counts
theorem S_are_counts : FnScope ["value", "one"] ["value"] (defScope (topS 16)) := ⟨rfl, rfl, rfl, by decide +kernel, rfl, by decide +kernel, by decide +kernel⟩
theorem B_are_counts (E : Env K mg) : ∀ f fd, Fun K "are_counts" "are_counts" (topS 16) f fd → FnOk P w K mg base (L2.CX P w) 3 f fd ["value"] (spD K mg 1 F_are_counts) := by
  have C_is_within := C_is_within (P := P) (w := w) (base := base) E
  have hN := S_are_counts.nd
  exact fn_all (l := []) S_are_counts rfl (fun i h => by simp [fxOf] at h) fun f cdv A outer s H W hr =>
    db_cons (ds_if (PDW.pdt (dw_or (dt_not (qtv (qisi E.z_isinstance E.z_list (qv 0)))) (dw_or1 (qtcmp (sd_gt (hu64 hr)) (qblt sn_len E.z_len (qacons (qv 0) (da_nil))) (qgi E.c_MOST_COUNTS))))) (db_one (ds_ret (de_bl))) (db_nil)) (db_one (ds_ret (qblt (sn_all rfl) E.z_all (qacons (qlc [("one", 1)] rfl hN (di_any (qv 0)) (fun _ _ _ _ _ => qgn 1 hN) (fun _ _ _ _ _ => dts_nil) (fun _ _ _ _ _ => qcall C_is_within hr (qacons (qv 1) (qacons (de_int) (qacons (qgi E.c_HIGHEST) (da_nil)))))) (da_nil)))))
theorem C_are_counts (E : Env K mg) : CalOk P w K mg base 3 "are_counts" 1 F_are_counts := cal_of E.f_are_counts rfl (B_are_counts E) (fun _ _ _ _ _ _ us hl => match us, hl with | [_], _ => rfl)
noncomputable def g_check_counts : Sm Fl := sDrop (sCall 1 F_check (aCons (sCall 1 F_are_counts (aCons (sVar 0) (aNil))) (aNil)))
noncomputable def F_check_counts : Sm Rv := sFun 1 1 false g_check_counts
theorem S_check_counts : FnScope ["counts"] ["counts"] (defScope (topS 17)) := ⟨rfl, rfl, rfl, by decide +kernel, rfl, by decide +kernel, by decide +kernel⟩
theorem B_check_counts (E : Env K mg) : ∀ f fd, Fun K "check_counts" "check_counts" (topS 17) f fd → FnOk P w K mg base (L2.CX P w) 4 f fd ["counts"] (spD K mg 1 F_check_counts) := by
  have C_are_counts := C_are_counts (P := P) (w := w) (base := base) E
  have C_check := C_check (P := P) (w := w) (base := base) E
  have hN := S_check_counts.nd
  exact fn_all (l := []) S_check_counts rfl (fun i h => by simp [fxOf] at h) fun f cdv A outer s H W hr =>
    db_one (qexpr (qcall C_check hr (qacons (qcall C_are_counts hr (qacons (qv 0) (da_nil))) (da_nil))))
theorem C_check_counts (E : Env K mg) : CalOk P w K mg base 4 "check_counts" 1 F_check_counts := cal_of E.f_check_counts rfl (B_check_counts E) (fun _ _ _ _ _ _ us hl => match us, hl with | [_], _ => rfl)
noncomputable def g_is_count : Sm Fl := sRet (fxs []) (sAnd (sCall 1 F_is_integer (aCons (sVar 0) (aNil))) (sOfT (tCmp' dGe (sVar 0) (sLit (.int 0)))))
noncomputable def F_is_count : Sm Rv := sFun 1 1 false g_is_count
theorem S_is_count : FnScope ["value"] ["value"] (defScope (topS 9)) := ⟨rfl, rfl, rfl, by decide +kernel, rfl, by decide +kernel, by decide +kernel⟩
theorem B_is_count (E : Env K mg) : ∀ f fd, Fun K "is_count" "is_count" (topS 9) f fd → FnOk P w K mg base (L2.CX P w) 2 f fd ["value"] (spD K mg 1 F_is_count) := by
  have C_is_integer := C_is_integer (P := P) (w := w) (base := base) E
  have hN := S_is_count.nd
  exact fn_all (l := []) S_is_count rfl (fun i h => by simp [fxOf] at h) fun f cdv A outer s H W hr =>
    db_one (ds_ret (de_and (qcall C_is_integer hr (qacons (qv 0) (da_nil))) (de_one (qcmp (sd_ge (hu64 hr)) (qv 0) (de_int)))))
theorem C_is_count (E : Env K mg) : CalOk P w K mg base 2 "is_count" 1 F_is_count := cal_of E.f_is_count rfl (B_is_count E) (fun _ _ _ _ _ _ us hl => match us, hl with | [_], _ => rfl)
noncomputable def g_at_least : Sm Fl := sSeq (sDrop (sCall 1 F_check_counts (aCons (sVar 0) (aNil)))) (sSeq (sDrop (sCall 1 F_check (aCons (sCall 1 F_is_count (aCons (sVar 1) (aNil))) (aNil)))) (sRet (fxs []) (sBlt dLen (aCons (sLc (iAny (sVar 0)) (gN 2) (tCmp' dGe (sVar 2) (sVar 1)) (sLit (.int 1)) [2]) (aNil)))))
noncomputable def F_at_least : Sm Rv := sFun 2 3 false g_at_least
theorem S_at_least : FnScope ["counts", "n", "one"] ["counts", "n"] (defScope (topS 34)) := ⟨rfl, rfl, rfl, by decide +kernel, rfl, by decide +kernel, by decide +kernel⟩
theorem B_at_least (E : Env K mg) : ∀ f fd, Fun K "at_least" "at_least" (topS 34) f fd → FnOk P w K mg base (L2.CX P w) 5 f fd ["counts", "n"] (spD K mg 2 F_at_least) := by
  have C_check := C_check (P := P) (w := w) (base := base) E
  have C_check_counts := C_check_counts (P := P) (w := w) (base := base) E
  have C_is_count := C_is_count (P := P) (w := w) (base := base) E
  have hN := S_at_least.nd
  exact fn_all (l := []) S_at_least rfl (fun i h => by simp [fxOf] at h) fun f cdv A outer s H W hr =>
    db_cons (qexpr (qcall C_check_counts hr (qacons (qv 0) (da_nil)))) (db_cons (qexpr (qcall C_check hr (qacons (qcall C_is_count hr (qacons (qv 1) (da_nil))) (da_nil)))) (db_one (ds_ret (qblt sn_len E.z_len (qacons (qlc [("one", 2)] rfl hN (di_any (qv 0)) (fun _ _ _ _ _ => qgn 2 hN) (fun _ _ _ _ _ => dts_one (qtcmp (sd_ge (hu64 hr)) (qv 2) (qv 1))) (fun _ _ _ _ _ => de_int)) (da_nil))))))
theorem C_at_least (E : Env K mg) : CalOk P w K mg base 5 "at_least" 2 F_at_least := cal_of E.f_at_least rfl (B_at_least E) (fun _ _ _ _ _ _ us hl => match us, hl with | [_, _], _ => rfl)
noncomputable def g_falling : Sm Fl := sRet (fxs []) (sRev (sBlt dSorted (aCons (sVar 0) (aNil))))
noncomputable def F_falling : Sm Rv := sFun 1 1 false g_falling
theorem S_falling : FnScope ["counts"] ["counts"] (defScope (topS 18)) := ⟨rfl, rfl, rfl, by decide +kernel, rfl, by decide +kernel, by decide +kernel⟩
theorem B_falling (E : Env K mg) : ∀ f fd, Fun K "falling" "falling" (topS 18) f fd → FnOk P w K mg base (L2.CX P w) 1 f fd ["counts"] (spD K mg 1 F_falling) := by
  have hN := S_falling.nd
  exact fn_all (l := []) S_falling rfl (fun i h => by simp [fxOf] at h) fun f cdv A outer s H W hr =>
    db_one (ds_ret (de_rev (qblt (sn_sorted (hu70 hr)) E.z_sorted (qacons (qv 0) (da_nil)))))
theorem C_falling (E : Env K mg) : CalOk P w K mg base 1 "falling" 1 F_falling := cal_of E.f_falling rfl (B_falling E) (fun _ _ _ _ _ _ us hl => match us, hl with | [_], _ => rfl)
noncomputable def g_h_by : Sm Fl := sRet (fxs []) (sBlt dLen (aCons (sLc (iEnumD (sCall 1 F_falling (aCons (sVar 0) (aNil)))) (gT [gN 1, gN 2]) (tCmp' dGt (sVar 2) (sVar 1)) (sLit (.int 1)) [1, 2]) (aNil)))
noncomputable def F_h_by : Sm Rv := sFun 1 3 false g_h_by
theorem S_h_by : FnScope ["counts", "at", "one"] ["counts"] (defScope (topS 19)) := ⟨rfl, rfl, rfl, by decide +kernel, rfl, by decide +kernel, by decide +kernel⟩
theorem B_h_by (E : Env K mg) : ∀ f fd, Fun K "h_by" "h_by" (topS 19) f fd → FnOk P w K mg base (L2.CX P w) 2 f fd ["counts"] (spD K mg 1 F_h_by) := by
  have C_falling := C_falling (P := P) (w := w) (base := base) E
  have hN := S_h_by.nd
  exact fn_all (l := []) S_h_by rfl (fun i h => by simp [fxOf] at h) fun f cdv A outer s H W hr =>
    db_one (ds_ret (qblt sn_len E.z_len (qacons (qlc [("at", 1), ("one", 2)] rfl hN (qien E.z_enumerate (qcall C_falling hr (qacons (qv 0) (da_nil)))) (fun _ _ _ _ _ => dg_tup rfl (qgc (qgn 1 hN) (qgc (qgn 2 hN) (dgs_nil)))) (fun _ _ _ _ _ => dts_one (qtcmp (sd_gt (hu64 hr)) (qv 2) (qv 1))) (fun _ _ _ _ _ => de_int)) (da_nil))))
theorem C_h_by (E : Env K mg) : CalOk P w K mg base 2 "h_by" 1 F_h_by := cal_of E.f_h_by rfl (B_h_by E) (fun _ _ _ _ _ _ us hl => match us, hl with | [_], _ => rfl)
noncomputable def g_core_of : Sm Fl := sSeq (sDrop (sCall 1 F_check_counts (aCons (sVar 0) (aNil)))) (sSeq (sAsg (rN 1) (sCall 1 F_h_by (aCons (sVar 0) (aNil)))) (sRet (fxs []) (sLc (iAny (sCall 1 F_falling (aCons (sVar 0) (aNil)))) (gN 2) (tCmp' dGe (sVar 2) (sVar 1)) (sVar 2) [2])))
noncomputable def F_core_of : Sm Rv := sFun 1 3 false g_core_of
theorem S_core_of : FnScope ["counts", "h", "one"] ["counts"] (defScope (topS 24)) := ⟨rfl, rfl, rfl, by decide +kernel, rfl, by decide +kernel, by decide +kernel⟩
theorem B_core_of (E : Env K mg) : ∀ f fd, Fun K "core_of" "core_of" (topS 24) f fd → FnOk P w K mg base (L2.CX P w) 5 f fd ["counts"] (spD K mg 1 F_core_of) := by
  have C_check_counts := C_check_counts (P := P) (w := w) (base := base) E
  have C_falling := C_falling (P := P) (w := w) (base := base) E
  have C_h_by := C_h_by (P := P) (w := w) (base := base) E
  have hN := S_core_of.nd
  exact fn_all (l := []) S_core_of rfl (fun i h => by simp [fxOf] at h) fun f cdv A outer s H W hr =>
    db_cons (qexpr (qcall C_check_counts hr (qacons (qv 0) (da_nil)))) (db_cons (qset 1 hN (qcall C_h_by hr (qacons (qv 0) (da_nil)))) (db_one (ds_ret (qlc [("one", 2)] rfl hN (di_any (qcall C_falling hr (qacons (qv 0) (da_nil)))) (fun _ _ _ _ _ => qgn 2 hN) (fun _ _ _ _ _ => dts_one (qtcmp (sd_ge (hu64 hr)) (qv 2) (qv 1))) (fun _ _ _ _ _ => qv 2)))))
theorem C_core_of (E : Env K mg) : CalOk P w K mg base 5 "core_of" 1 F_core_of := cal_of E.f_core_of rfl (B_core_of E) (fun _ _ _ _ _ _ us hl => match us, hl with | [_], _ => rfl)
noncomputable def g_g_by : Sm Fl := sSeq (sAsgs [rN 1, rN 2] (aCons (sLit (.int 0)) (aCons (sLit (.int 0)) (aNil)))) (sSeq (sFor (fxs []) (iEnumD (sCall 1 F_falling (aCons (sVar 0) (aNil)))) (gT [gN 3, gN 4]) (sSeq (sAug 2 dIAdd (sVar 4)) (sIfS (tCmp' dGe (sVar 2) (sBin dMul (sBin dAdd (sVar 3) (sLit (.int 1))) (sBin dAdd (sVar 3) (sLit (.int 1))))) (sAsg (rN 1) (sBin dAdd (sVar 3) (sLit (.int 1)))) (sNx)))) (sRet (fxs []) (sVar 1)))
noncomputable def F_g_by : Sm Rv := sFun 1 5 false g_g_by
theorem S_g_by : FnScope ["counts", "found", "whole", "at", "one"] ["counts"] (defScope (topS 20)) := ⟨rfl, rfl, rfl, by decide +kernel, rfl, by decide +kernel, by decide +kernel⟩
theorem B_g_by (E : Env K mg) : ∀ f fd, Fun K "g_by" "g_by" (topS 20) f fd → FnOk P w K mg base (L2.CX P w) 2 f fd ["counts"] (spD K mg 1 F_g_by) := by
  have C_falling := C_falling (P := P) (w := w) (base := base) E
  have hN := S_g_by.nd
  exact fn_all (l := []) S_g_by rfl (fun i h => by simp [fxOf] at h) fun f cdv A outer s H W hr =>
    db_cons (qasgs rfl (qacons (de_int) (qacons (de_int) (da_nil))) (qrc (qrn 1 hN) (qrc (qrn 2 hN) (drs_nil)))) (db_cons (qfor (passes_of rfl) rfl fxs_same (qien E.z_enumerate (qcall C_falling hr (qacons (qv 0) (da_nil)))) (dg_tup rfl (qgc (qgn 3 hN) (qgc (qgn 4 hN) (dgs_nil)))) (db_cons (qaug 2 hN si_add (qv 4)) (db_one (ds_if (qtcmp (sd_ge (hu64 hr)) (qv 2) (de_bin sd_mul (de_bin sd_add (qv 3) (de_int)) (de_bin sd_add (qv 3) (de_int)))) (db_one (qset 1 hN (de_bin sd_add (qv 3) (de_int)))) (db_nil))))) (db_one (ds_ret (qv 1))))
theorem C_g_by (E : Env K mg) : CalOk P w K mg base 2 "g_by" 1 F_g_by := cal_of E.f_g_by rfl (B_g_by E) (fun _ _ _ _ _ _ us hl => match us, hl with | [_], _ => rfl)
noncomputable def g_g_of : Sm Fl := sSeq (sDrop (sCall 1 F_check_counts (aCons (sVar 0) (aNil)))) (sRet (fxs []) (sCall 1 F_g_by (aCons (sVar 0) (aNil))))
noncomputable def F_g_of : Sm Rv := sFun 1 1 false g_g_of
theorem S_g_of : FnScope ["counts"] ["counts"] (defScope (topS 22)) := ⟨rfl, rfl, rfl, by decide +kernel, rfl, by decide +kernel, by decide +kernel⟩
theorem B_g_of (E : Env K mg) : ∀ f fd, Fun K "g_of" "g_of" (topS 22) f fd → FnOk P w K mg base (L2.CX P w) 5 f fd ["counts"] (spD K mg 1 F_g_of) := by
  have C_check_counts := C_check_counts (P := P) (w := w) (base := base) E
  have C_g_by := C_g_by (P := P) (w := w) (base := base) E
  have hN := S_g_of.nd
  exact fn_all (l := []) S_g_of rfl (fun i h => by simp [fxOf] at h) fun f cdv A outer s H W hr =>
    db_cons (qexpr (qcall C_check_counts hr (qacons (qv 0) (da_nil)))) (db_one (ds_ret (qcall C_g_by hr (qacons (qv 0) (da_nil)))))
theorem C_g_of (E : Env K mg) : CalOk P w K mg base 5 "g_of" 1 F_g_of := cal_of E.f_g_of rfl (B_g_of E) (fun _ _ _ _ _ _ us hl => match us, hl with | [_], _ => rfl)
noncomputable def g_h_of : Sm Fl := sSeq (sDrop (sCall 1 F_check_counts (aCons (sVar 0) (aNil)))) (sRet (fxs []) (sCall 1 F_h_by (aCons (sVar 0) (aNil))))
noncomputable def F_h_of : Sm Rv := sFun 1 1 false g_h_of
theorem S_h_of : FnScope ["counts"] ["counts"] (defScope (topS 21)) := ⟨rfl, rfl, rfl, by decide +kernel, rfl, by decide +kernel, by decide +kernel⟩
theorem B_h_of (E : Env K mg) : ∀ f fd, Fun K "h_of" "h_of" (topS 21) f fd → FnOk P w K mg base (L2.CX P w) 5 f fd ["counts"] (spD K mg 1 F_h_of) := by
  have C_check_counts := C_check_counts (P := P) (w := w) (base := base) E
  have C_h_by := C_h_by (P := P) (w := w) (base := base) E
  have hN := S_h_of.nd
  exact fn_all (l := []) S_h_of rfl (fun i h => by simp [fxOf] at h) fun f cdv A outer s H W hr =>
    db_cons (qexpr (qcall C_check_counts hr (qacons (qv 0) (da_nil)))) (db_one (ds_ret (qcall C_h_by hr (qacons (qv 0) (da_nil)))))
theorem C_h_of (E : Env K mg) : CalOk P w K mg base 5 "h_of" 1 F_h_of := cal_of E.f_h_of rfl (B_h_of E) (fun _ _ _ _ _ _ us hl => match us, hl with | [_], _ => rfl)
noncomputable def g_tail_of : Sm Fl := sSeq (sDrop (sCall 1 F_check_counts (aCons (sVar 0) (aNil)))) (sRet (fxs []) (sBin dSub (sBlt dSum (aCons (sVar 0) (aNil))) (sBin dMul (sCall 1 F_h_by (aCons (sVar 0) (aNil))) (sCall 1 F_h_by (aCons (sVar 0) (aNil))))))
noncomputable def F_tail_of : Sm Rv := sFun 1 1 false g_tail_of
theorem S_tail_of : FnScope ["counts"] ["counts"] (defScope (topS 25)) := ⟨rfl, rfl, rfl, by decide +kernel, rfl, by decide +kernel, by decide +kernel⟩
theorem B_tail_of (E : Env K mg) : ∀ f fd, Fun K "tail_of" "tail_of" (topS 25) f fd → FnOk P w K mg base (L2.CX P w) 5 f fd ["counts"] (spD K mg 1 F_tail_of) := by
  have C_check_counts := C_check_counts (P := P) (w := w) (base := base) E
  have C_h_by := C_h_by (P := P) (w := w) (base := base) E
  have hN := S_tail_of.nd
  exact fn_all (l := []) S_tail_of rfl (fun i h => by simp [fxOf] at h) fun f cdv A outer s H W hr =>
    db_cons (qexpr (qcall C_check_counts hr (qacons (qv 0) (da_nil)))) (db_one (ds_ret (de_bin sd_sub (qblt (sn_sum rfl) E.z_sum (qacons (qv 0) (da_nil))) (de_bin sd_mul (qcall C_h_by hr (qacons (qv 0) (da_nil))) (qcall C_h_by hr (qacons (qv 0) (da_nil)))))))
theorem C_tail_of (E : Env K mg) : CalOk P w K mg base 5 "tail_of" 1 F_tail_of := cal_of E.f_tail_of rfl (B_tail_of E) (fun _ _ _ _ _ _ us hl => match us, hl with | [_], _ => rfl)
noncomputable def g_takes_h : Sm Fl := sSeq (sDrop (sCall 1 F_check (aCons (sAnd (sIsi "list" (sVar 0)) (sAnd (sOfT (tCmp' dLe (sBlt dLen (aCons (sVar 0) (aNil))) (sLit (.int 500)))) (sBlt dAll (aCons (sLc (iAny (sVar 0)) (gN 2) (tYesD) (sCall 3 F_is_within (aCons (sVar 2) (aCons (sLit (.int 0)) (aCons (sLit (.int 1000000)) (aNil))))) [2]) (aNil))))) (aNil)))) (sSeq (sIfS (tOr' (tNot' (tOfS (sCall 1 F_is_integer (aCons (sVar 1) (aNil))))) (tCmp' dLt (sVar 1) (sLit (.int 0)))) (sRet (fxs []) (sLit (.bl false))) (sNx)) (sRet (fxs []) (sAnd (sOfT (tCmp' dGe (sBlt dLen (aCons (sLc (iAny (sVar 0)) (gN 2) (tCmp' dGe (sVar 2) (sVar 1)) (sLit (.int 1)) [2]) (aNil))) (sVar 1))) (sOfT (tCmp' dLe (sBlt dLen (aCons (sLc (iAny (sVar 0)) (gN 2) (tCmp' dGt (sVar 2) (sVar 1)) (sLit (.int 1)) [2]) (aNil))) (sVar 1))))))
noncomputable def F_takes_h : Sm Rv := sFun 2 3 false g_takes_h
theorem S_takes_h : FnScope ["counts", "h", "one"] ["counts", "h"] (defScope (topS 37)) := ⟨rfl, rfl, rfl, by decide +kernel, rfl, by decide +kernel, by decide +kernel⟩
theorem B_takes_h (E : Env K mg) : ∀ f fd, Fun K "takes_h" "takes_h" (topS 37) f fd → FnOk P w K mg base (L2.CX P w) 3 f fd ["counts", "h"] (spD K mg 2 F_takes_h) := by
  have C_check := C_check (P := P) (w := w) (base := base) E
  have C_is_integer := C_is_integer (P := P) (w := w) (base := base) E
  have C_is_within := C_is_within (P := P) (w := w) (base := base) E
  have hN := S_takes_h.nd
  exact fn_all (l := []) S_takes_h rfl (fun i h => by simp [fxOf] at h) fun f cdv A outer s H W hr =>
    db_cons (qexpr (qcall C_check hr (qacons (de_and (qisi E.z_isinstance E.z_list (qv 0)) (de_and (qcmp (sd_le (hu64 hr)) (qblt sn_len E.z_len (qacons (qv 0) (da_nil))) (de_int)) (de_one (qblt (sn_all rfl) E.z_all (qacons (qlc [("one", 2)] rfl hN (di_any (qv 0)) (fun _ _ _ _ _ => qgn 2 hN) (fun _ _ _ _ _ => dts_nil) (fun _ _ _ _ _ => qcall C_is_within hr (qacons (qv 2) (qacons (de_int) (qacons (de_int) (da_nil)))))) (da_nil)))))) (da_nil)))) (db_cons (ds_if (PDW.pdt (dw_or (dt_not (qtv (qcall C_is_integer hr (qacons (qv 1) (da_nil))))) (dw_or1 (qtcmp (sd_lt (hu64 hr)) (qv 1) (de_int))))) (db_one (ds_ret (de_bl))) (db_nil)) (db_one (ds_ret (de_and (qcmp (sd_ge (hu64 hr)) (qblt sn_len E.z_len (qacons (qlc [("one", 2)] rfl hN (di_any (qv 0)) (fun _ _ _ _ _ => qgn 2 hN) (fun _ _ _ _ _ => dts_one (qtcmp (sd_ge (hu64 hr)) (qv 2) (qv 1))) (fun _ _ _ _ _ => de_int)) (da_nil))) (qv 1)) (de_one (qcmp (sd_le (hu64 hr)) (qblt sn_len E.z_len (qacons (qlc [("one", 2)] rfl hN (di_any (qv 0)) (fun _ _ _ _ _ => qgn 2 hN) (fun _ _ _ _ _ => dts_one (qtcmp (sd_gt (hu64 hr)) (qv 2) (qv 1))) (fun _ _ _ _ _ => de_int)) (da_nil))) (qv 1)))))))
theorem C_takes_h (E : Env K mg) : CalOk P w K mg base 3 "takes_h" 2 F_takes_h := cal_of E.f_takes_h rfl (B_takes_h E) (fun _ _ _ _ _ _ us hl => match us, hl with | [_, _], _ => rfl)
noncomputable def g_w_of : Sm Fl := sSeq (sDrop (sCall 1 F_check_counts (aCons (sVar 0) (aNil)))) (sRet (fxs []) (sBlt dLen (aCons (sLc (iEnumD (sCall 1 F_falling (aCons (sVar 0) (aNil)))) (gT [gN 1, gN 2]) (tCmp' dGe (sVar 2) (sBin dMul (sLit (.int 10)) (sBin dAdd (sVar 1) (sLit (.int 1))))) (sLit (.int 1)) [1, 2]) (aNil))))
noncomputable def F_w_of : Sm Rv := sFun 1 3 false g_w_of
theorem S_w_of : FnScope ["counts", "at", "one"] ["counts"] (defScope (topS 23)) := ⟨rfl, rfl, rfl, by decide +kernel, rfl, by decide +kernel, by decide +kernel⟩
theorem B_w_of (E : Env K mg) : ∀ f fd, Fun K "w_of" "w_of" (topS 23) f fd → FnOk P w K mg base (L2.CX P w) 5 f fd ["counts"] (spD K mg 1 F_w_of) := by
  have C_check_counts := C_check_counts (P := P) (w := w) (base := base) E
  have C_falling := C_falling (P := P) (w := w) (base := base) E
  have hN := S_w_of.nd
  exact fn_all (l := []) S_w_of rfl (fun i h => by simp [fxOf] at h) fun f cdv A outer s H W hr =>
    db_cons (qexpr (qcall C_check_counts hr (qacons (qv 0) (da_nil)))) (db_one (ds_ret (qblt sn_len E.z_len (qacons (qlc [("at", 1), ("one", 2)] rfl hN (qien E.z_enumerate (qcall C_falling hr (qacons (qv 0) (da_nil)))) (fun _ _ _ _ _ => dg_tup rfl (qgc (qgn 1 hN) (qgc (qgn 2 hN) (dgs_nil)))) (fun _ _ _ _ _ => dts_one (qtcmp (sd_ge (hu64 hr)) (qv 2) (de_bin sd_mul (qgi E.c_STEP_OF_W) (de_bin sd_add (qv 1) (de_int))))) (fun _ _ _ _ _ => de_int)) (da_nil)))))
theorem C_w_of (E : Env K mg) : CalOk P w K mg base 5 "w_of" 1 F_w_of := cal_of E.f_w_of rfl (B_w_of E) (fun _ _ _ _ _ _ us hl => match us, hl with | [_], _ => rfl)
noncomputable def g__law_is_measured : Sm Fl := sSeq (sAsgs [rN 1, rN 2, rN 3, rN 4] (aCons (sRev (sBlt dSorted (aCons (sVar 0) (aNil)))) (aCons (sCall 1 F_h_of (aCons (sVar 0) (aNil))) (aCons (sCall 1 F_g_of (aCons (sVar 0) (aNil))) (aCons (sCall 1 F_w_of (aCons (sVar 0) (aNil))) (aNil)))))) (sSeq (sIfS (tOr' (tCmp' dGt (sVar 2) (sBlt dLen (aCons (sVar 0) (aNil)))) (tOr' (tCmp' dNe (sSl (sVar 1) (pPart none) (pPart (some (sVar 2)))) (sLc (iAny (sSl (sVar 1) (pPart none) (pPart (some (sVar 2))))) (gN 7) (tCmp' dGe (sVar 7) (sVar 2)) (sVar 7) [7])) (tAnd' (tCmp' dGt (sBlt dLen (aCons (sVar 0) (aNil))) (sVar 2)) (tCmp' dGe (sBin dIx (sVar 1) (sVar 2)) (sBin dAdd (sVar 2) (sLit (.int 1))))))) (sRet (fxs []) (sLit (.bl false))) (sNx)) (sSeq (sIfS (tOr' (tNot' (tChn dLe dLe (sVar 2) (sVar 3) (sBlt dLen (aCons (sVar 0) (aNil))))) (tOr' (tCmp' dLt (sBlt dSum (aCons (sSl (sVar 1) (pPart none) (pPart (some (sVar 3)))) (aNil))) (sBin dMul (sVar 3) (sVar 3))) (tAnd' (tCmp' dLt (sVar 3) (sBlt dLen (aCons (sVar 0) (aNil)))) (tCmp' dGe (sBlt dSum (aCons (sSl (sVar 1) (pPart none) (pPart (some (sBin dAdd (sVar 3) (sLit (.int 1)))))) (aNil))) (sBin dMul (sBin dAdd (sVar 3) (sLit (.int 1))) (sBin dAdd (sVar 3) (sLit (.int 1)))))))) (sRet (fxs []) (sLit (.bl false))) (sNx)) (sSeq (sIfS (tOr' (tCmp' dNe (sSl (sVar 1) (pPart none) (pPart (some (sVar 4)))) (sLc (iAny (sSl (sVar 1) (pPart none) (pPart (some (sVar 4))))) (gN 7) (tCmp' dGe (sVar 7) (sBin dMul (sLit (.int 10)) (sVar 4))) (sVar 7) [7])) (tAnd' (tCmp' dGt (sBlt dLen (aCons (sVar 0) (aNil))) (sVar 4)) (tAnd' (tCmp' dGe (sBin dIx (sVar 1) (sVar 4)) (sBin dMul (sLit (.int 10)) (sBin dAdd (sVar 4) (sLit (.int 1))))) (tCmp' dLe (sVar 4) (sVar 2))))) (sRet (fxs []) (sLit (.bl false))) (sNx)) (sSeq (sAsgs [rN 5, rN 6] (aCons (sCall 1 F_core_of (aCons (sVar 0) (aNil))) (aCons (sCall 1 F_tail_of (aCons (sVar 0) (aNil))) (aNil)))) (sSeq (sIfS (tOr' (tCmp' dNe (sVar 5) (sLc (iAny (sVar 1)) (gN 7) (tCmp' dGe (sVar 7) (sVar 2)) (sVar 7) [7])) (tOr' (tCmp' dNe (sVar 6) (sBin dSub (sBlt dSum (aCons (sVar 0) (aNil))) (sBin dMul (sVar 2) (sVar 2)))) (tAnd' (tCmp' dGt (sVar 2) (sLit (.int 0))) (tCmp' dNe (sCall 2 F_at_least (aCons (sVar 0) (aCons (sVar 2) (aNil)))) (sBlt dLen (aCons (sVar 5) (aNil))))))) (sRet (fxs []) (sLit (.bl false))) (sNx)) (sRet (fxs []) (sAnd (sOfT (tCmp' dIs (sCall 2 F_takes_h (aCons (sVar 0) (aCons (sVar 2) (aNil)))) (sLit (.bl true)))) (sAnd (sOfT (tCmp' dIs (sCall 2 F_takes_h (aCons (sVar 0) (aCons (sBin dAdd (sVar 2) (sLit (.int 1))) (aNil)))) (sLit (.bl false)))) (sAnd (sOr (sOfT (tCmp' dEq (sVar 2) (sLit (.int 0)))) (sOfT (tCmp' dIs (sCall 2 F_takes_h (aCons (sVar 0) (aCons (sBin dSub (sVar 2) (sLit (.int 1))) (aNil)))) (sLit (.bl false))))) (sOfT (tCmp' dEq (sCall 1 F_h_of (aCons (sVar 1) (aNil))) (sVar 2))))))))))))
noncomputable def F__law_is_measured : Sm Rv := sFun 1 8 false g__law_is_measured
theorem S__law_is_measured : FnScope ["counts", "falling_v", "h", "g", "w", "core", "tail", "one"] ["counts"] (defScope (topS 45)) := ⟨rfl, rfl, rfl, by decide +kernel, rfl, by decide +kernel, by decide +kernel⟩
theorem B__law_is_measured (E : Env K mg) : ∀ f fd, Fun K "_law_is_measured" "_law_is_measured" (topS 45) f fd → FnOk P w K mg base (L2.CX P w) 6 f fd ["counts"] (spD K mg 1 F__law_is_measured) := by
  have C_at_least := C_at_least (P := P) (w := w) (base := base) E
  have C_core_of := C_core_of (P := P) (w := w) (base := base) E
  have C_g_of := C_g_of (P := P) (w := w) (base := base) E
  have C_h_of := C_h_of (P := P) (w := w) (base := base) E
  have C_tail_of := C_tail_of (P := P) (w := w) (base := base) E
  have C_takes_h := C_takes_h (P := P) (w := w) (base := base) E
  have C_w_of := C_w_of (P := P) (w := w) (base := base) E
  have hN := S__law_is_measured.nd
  exact fn_all (l := []) S__law_is_measured rfl (fun i h => by simp [fxOf] at h) fun f cdv A outer s H W hr =>
    db_cons (qasgs rfl (qacons (de_rev (qblt (sn_sorted (hu70 hr)) E.z_sorted (qacons (qv 0) (da_nil)))) (qacons (qcall C_h_of hr (qacons (qv 0) (da_nil))) (qacons (qcall C_g_of hr (qacons (qv 0) (da_nil))) (qacons (qcall C_w_of hr (qacons (qv 0) (da_nil))) (da_nil))))) (qrc (qrn 1 hN) (qrc (qrn 2 hN) (qrc (qrn 3 hN) (qrc (qrn 4 hN) (drs_nil)))))) (db_cons (ds_if (PDW.pdt (dw_or (qtcmp (sd_gt (hu64 hr)) (qv 2) (qblt sn_len E.z_len (qacons (qv 0) (da_nil)))) (dw_or (qtcmp (sd_ne (hu64 hr)) (de_sl (qv 1) (dp_none) (dp_some (qv 2))) (qlc [("one", 7)] rfl hN (di_any (de_sl (qv 1) (dp_none) (dp_some (qv 2)))) (fun _ _ _ _ _ => qgn 7 hN) (fun _ _ _ _ _ => dts_one (qtcmp (sd_ge (hu64 hr)) (qv 7) (qv 2))) (fun _ _ _ _ _ => qv 7))) (dw_or1 (PDW.pdt (dw_and (qtcmp (sd_gt (hu64 hr)) (qblt sn_len E.z_len (qacons (qv 0) (da_nil))) (qv 2)) (dw_and1 (qtcmp (sd_ge (hu64 hr)) (qix si_ix (qv 1) (qv 2)) (de_bin sd_add (qv 2) (de_int)))))))))) (db_one (ds_ret (de_bl))) (db_nil)) (db_cons (ds_if (PDW.pdt (dw_or (dt_not (qtchn (sd_le (hu64 hr)) (sd_le (hu64 hr)) (qv 2) (qv 3) (qblt sn_len E.z_len (qacons (qv 0) (da_nil))))) (dw_or (qtcmp (sd_lt (hu64 hr)) (qblt (sn_sum rfl) E.z_sum (qacons (de_sl (qv 1) (dp_none) (dp_some (qv 3))) (da_nil))) (de_bin sd_mul (qv 3) (qv 3))) (dw_or1 (PDW.pdt (dw_and (qtcmp (sd_lt (hu64 hr)) (qv 3) (qblt sn_len E.z_len (qacons (qv 0) (da_nil)))) (dw_and1 (qtcmp (sd_ge (hu64 hr)) (qblt (sn_sum rfl) E.z_sum (qacons (de_sl (qv 1) (dp_none) (dp_some (de_bin sd_add (qv 3) (de_int)))) (da_nil))) (de_bin sd_mul (de_bin sd_add (qv 3) (de_int)) (de_bin sd_add (qv 3) (de_int))))))))))) (db_one (ds_ret (de_bl))) (db_nil)) (db_cons (ds_if (PDW.pdt (dw_or (qtcmp (sd_ne (hu64 hr)) (de_sl (qv 1) (dp_none) (dp_some (qv 4))) (qlc [("one", 7)] rfl hN (di_any (de_sl (qv 1) (dp_none) (dp_some (qv 4)))) (fun _ _ _ _ _ => qgn 7 hN) (fun _ _ _ _ _ => dts_one (qtcmp (sd_ge (hu64 hr)) (qv 7) (de_bin sd_mul (de_int) (qv 4)))) (fun _ _ _ _ _ => qv 7))) (dw_or1 (PDW.pdt (dw_and (qtcmp (sd_gt (hu64 hr)) (qblt sn_len E.z_len (qacons (qv 0) (da_nil))) (qv 4)) (dw_and (qtcmp (sd_ge (hu64 hr)) (qix si_ix (qv 1) (qv 4)) (de_bin sd_mul (de_int) (de_bin sd_add (qv 4) (de_int)))) (dw_and1 (qtcmp (sd_le (hu64 hr)) (qv 4) (qv 2))))))))) (db_one (ds_ret (de_bl))) (db_nil)) (db_cons (qpar 5 6 rfl hN (qacons (qcall C_core_of hr (qacons (qv 0) (da_nil))) (qacons (qcall C_tail_of hr (qacons (qv 0) (da_nil))) (da_nil)))) (db_cons (ds_if (PDW.pdt (dw_or (qtcmp (sd_ne (hu64 hr)) (qv 5) (qlc [("one", 7)] rfl hN (di_any (qv 1)) (fun _ _ _ _ _ => qgn 7 hN) (fun _ _ _ _ _ => dts_one (qtcmp (sd_ge (hu64 hr)) (qv 7) (qv 2))) (fun _ _ _ _ _ => qv 7))) (dw_or (qtcmp (sd_ne (hu64 hr)) (qv 6) (de_bin sd_sub (qblt (sn_sum rfl) E.z_sum (qacons (qv 0) (da_nil))) (de_bin sd_mul (qv 2) (qv 2)))) (dw_or1 (PDW.pdt (dw_and (qtcmp (sd_gt (hu64 hr)) (qv 2) (de_int)) (dw_and1 (qtcmp (sd_ne (hu64 hr)) (qcall C_at_least hr (qacons (qv 0) (qacons (qv 2) (da_nil)))) (qblt sn_len E.z_len (qacons (qv 5) (da_nil))))))))))) (db_one (ds_ret (de_bl))) (db_nil)) (db_one (ds_ret (de_and (qcmp sd_is (qcall C_takes_h hr (qacons (qv 0) (qacons (qv 2) (da_nil)))) (de_bl)) (de_and (qcmp sd_is (qcall C_takes_h hr (qacons (qv 0) (qacons (de_bin sd_add (qv 2) (de_int)) (da_nil)))) (de_bl)) (de_and (de_or (qcmp (sd_eq (hu64 hr)) (qv 2) (de_int)) (de_one (qcmp sd_is (qcall C_takes_h hr (qacons (qv 0) (qacons (de_bin sd_sub (qv 2) (de_int)) (da_nil)))) (de_bl)))) (de_one (qcmp (sd_eq (hu64 hr)) (qcall C_h_of hr (qacons (qv 1) (da_nil))) (qv 2)))))))))))))
theorem C__law_is_measured (E : Env K mg) : CalOk P w K mg base 6 "_law_is_measured" 1 F__law_is_measured := cal_of E.f__law_is_measured rfl (B__law_is_measured E) (fun _ _ _ _ _ _ us hl => match us, hl with | [_], _ => rfl)
noncomputable def g_lacking : Sm Fl := sRet (fxs []) (sBlt dSum (aCons (sLc (iAny (sSl (sCall 1 F_falling (aCons (sVar 0) (aNil))) (pPart none) (pPart (some (sVar 1))))) (gN 2) (tYesD) (sBlt dMax (aCons (sLit (.int 0)) (aCons (sBin dSub (sVar 1) (sVar 2)) (aNil)))) [2]) (aNil)))
noncomputable def F_lacking : Sm Rv := sFun 2 3 false g_lacking
theorem S_lacking : FnScope ["counts", "h", "one"] ["counts", "h"] (defScope (topS 26)) := ⟨rfl, rfl, rfl, by decide +kernel, rfl, by decide +kernel, by decide +kernel⟩
theorem B_lacking (E : Env K mg) : ∀ f fd, Fun K "lacking" "lacking" (topS 26) f fd → FnOk P w K mg base (L2.CX P w) 2 f fd ["counts", "h"] (spD K mg 2 F_lacking) := by
  have C_falling := C_falling (P := P) (w := w) (base := base) E
  have hN := S_lacking.nd
  exact fn_all (l := []) S_lacking rfl (fun i h => by simp [fxOf] at h) fun f cdv A outer s H W hr =>
    db_one (ds_ret (qblt (sn_sum rfl) E.z_sum (qacons (qlc [("one", 2)] rfl hN (di_any (de_sl (qcall C_falling hr (qacons (qv 0) (da_nil))) (dp_none) (dp_some (qv 1)))) (fun _ _ _ _ _ => qgn 2 hN) (fun _ _ _ _ _ => dts_nil) (fun _ _ _ _ _ => qblt (sn_max rfl) E.z_max (qacons (de_int) (qacons (de_bin sd_sub (qv 1) (qv 2)) (da_nil))))) (da_nil))))
theorem C_lacking (E : Env K mg) : CalOk P w K mg base 2 "lacking" 2 F_lacking := cal_of E.f_lacking rfl (B_lacking E) (fun _ _ _ _ _ _ us hl => match us, hl with | [_, _], _ => rfl)
noncomputable def g_most_h : Sm Fl := sSeq (sAsg (rN 2) (sCall 1 F_h_by (aCons (sVar 0) (aNil)))) (sSeq (whGo (tAnd' (tCmp' dLt (sVar 2) (sBlt dLen (aCons (sVar 0) (aNil)))) (tCmp' dLe (sCall 2 F_lacking (aCons (sVar 0) (aCons (sBin dAdd (sVar 2) (sLit (.int 1))) (aNil)))) (sVar 1))) (sAug 2 dIAdd (sLit (.int 1))) fuel) (sRet (fxs []) (sVar 2)))
noncomputable def F_most_h : Sm Rv := sFun 2 3 false g_most_h
theorem S_most_h : FnScope ["counts", "more", "found"] ["counts", "more"] (defScope (topS 29)) := ⟨rfl, rfl, rfl, by decide +kernel, rfl, by decide +kernel, by decide +kernel⟩
theorem B_most_h (E : Env K mg) : ∀ f fd, Fun K "most_h" "most_h" (topS 29) f fd → FnOk P w K mg base (L2.CX P w) 3 f fd ["counts", "more"] (spD K mg 2 F_most_h) := by
  have C_h_by := C_h_by (P := P) (w := w) (base := base) E
  have C_lacking := C_lacking (P := P) (w := w) (base := base) E
  have hN := S_most_h.nd
  exact fn_all (l := []) S_most_h rfl (fun i h => by simp [fxOf] at h) fun f cdv A outer s H W hr =>
    db_cons (qset 2 hN (qcall C_h_by hr (qacons (qv 0) (da_nil)))) (db_cons (ds_while (passes_of rfl) (PDW.pdt (dw_and (qtcmp (sd_lt (hu64 hr)) (qv 2) (qblt sn_len E.z_len (qacons (qv 0) (da_nil)))) (dw_and1 (qtcmp (sd_le (hu64 hr)) (qcall C_lacking hr (qacons (qv 0) (qacons (de_bin sd_add (qv 2) (de_int)) (da_nil)))) (qv 1))))) (db_one (qaug 2 hN si_add (de_int)))) (db_one (ds_ret (qv 2))))
theorem C_most_h (E : Env K mg) : CalOk P w K mg base 3 "most_h" 2 F_most_h := cal_of E.f_most_h rfl (B_most_h E) (fun _ _ _ _ _ _ us hl => match us, hl with | [_, _], _ => rfl)
noncomputable def g_best_putting : Sm Fl := sSeq (sDrop (sCall 1 F_check_counts (aCons (sVar 0) (aNil)))) (sSeq (sDrop (sCall 1 F_check (aCons (sCall 1 F_is_count (aCons (sVar 1) (aNil))) (aNil)))) (sSeq (sAsgs [rN 2, rN 3] (aCons (sCall 2 F_most_h (aCons (sVar 0) (aCons (sVar 1) (aNil)))) (aCons (sBlt dList (aCons (sVar 0) (aNil))) (aNil)))) (sSeq (sFor (fxs []) (iAny (sSl (sBlt dSorted (aCons (sLc (iEnumD (sVar 0)) (gT [gN 5, gN 6]) (tYesD) (sTup (aCons (sUn dNeg (sVar 6)) (aCons (sVar 5) (aNil)))) [5, 6]) (aNil))) (pPart none) (pPart (some (sVar 2))))) (gT [gN 4, gN 5]) (sAsg (rSub 3 (sVar 5) upLst) (sBlt dMax (aCons (sBin dIx (sVar 3) (sVar 5)) (aCons (sVar 2) (aNil)))))) (sRet (fxs []) (sVar 3)))))
noncomputable def F_best_putting : Sm Rv := sFun 2 7 false g_best_putting
theorem S_best_putting : FnScope ["counts", "more", "h", "found", "_", "at", "one"] ["counts", "more"] (defScope (topS 31)) := ⟨rfl, rfl, rfl, by decide +kernel, rfl, by decide +kernel, by decide +kernel⟩
theorem B_best_putting (E : Env K mg) : ∀ f fd, Fun K "best_putting" "best_putting" (topS 31) f fd → FnOk P w K mg base (L2.CX P w) 5 f fd ["counts", "more"] (spD K mg 2 F_best_putting) := by
  have C_check := C_check (P := P) (w := w) (base := base) E
  have C_check_counts := C_check_counts (P := P) (w := w) (base := base) E
  have C_is_count := C_is_count (P := P) (w := w) (base := base) E
  have C_most_h := C_most_h (P := P) (w := w) (base := base) E
  have hN := S_best_putting.nd
  exact fn_all (l := []) S_best_putting rfl (fun i h => by simp [fxOf] at h) fun f cdv A outer s H W hr =>
    db_cons (qexpr (qcall C_check_counts hr (qacons (qv 0) (da_nil)))) (db_cons (qexpr (qcall C_check hr (qacons (qcall C_is_count hr (qacons (qv 1) (da_nil))) (da_nil)))) (db_cons (qpar 2 3 rfl hN (qacons (qcall C_most_h hr (qacons (qv 0) (qacons (qv 1) (da_nil)))) (qacons (qty sn_list E.z_list (qacons (qv 0) (da_nil))) (da_nil)))) (db_cons (qfor (passes_of rfl) rfl fxs_same (di_any (de_sl (qblt (sn_sorted (hu70 hr)) E.z_sorted (qacons (qlc [("at", 5), ("one", 6)] rfl hN (qien E.z_enumerate (qv 0)) (fun _ _ _ _ _ => dg_tup rfl (qgc (qgn 5 hN) (qgc (qgn 6 hN) (dgs_nil)))) (fun _ _ _ _ _ => dts_nil) (fun _ _ _ _ _ => de_tup (qacons (de_un sd_neg (qv 6)) (qacons (qv 5) (da_nil))))) (da_nil))) (dp_none) (dp_some (qv 2)))) (dg_tup rfl (qgc (qgn 4 hN) (qgc (qgn 5 hN) (dgs_nil)))) (db_one (qasg (qblt (sn_max rfl) E.z_max (qacons (qix si_ix (qv 3) (qv 5)) (qacons (qv 2) (da_nil)))) (qrs 3 (qv 5))))) (db_one (ds_ret (qv 3))))))
theorem C_best_putting (E : Env K mg) : CalOk P w K mg base 5 "best_putting" 2 F_best_putting := cal_of E.f_best_putting rfl (B_best_putting E) (fun _ _ _ _ _ _ us hl => match us, hl with | [_, _], _ => rfl)
noncomputable def g_h_with : Sm Fl := sSeq (sDrop (sCall 1 F_check_counts (aCons (sVar 0) (aNil)))) (sSeq (sDrop (sCall 1 F_check (aCons (sCall 1 F_is_count (aCons (sVar 1) (aNil))) (aNil)))) (sRet (fxs []) (sCall 2 F_most_h (aCons (sVar 0) (aCons (sVar 1) (aNil))))))
noncomputable def F_h_with : Sm Rv := sFun 2 2 false g_h_with
theorem S_h_with : FnScope ["counts", "more"] ["counts", "more"] (defScope (topS 30)) := ⟨rfl, rfl, rfl, by decide +kernel, rfl, by decide +kernel, by decide +kernel⟩
theorem B_h_with (E : Env K mg) : ∀ f fd, Fun K "h_with" "h_with" (topS 30) f fd → FnOk P w K mg base (L2.CX P w) 5 f fd ["counts", "more"] (spD K mg 2 F_h_with) := by
  have C_check := C_check (P := P) (w := w) (base := base) E
  have C_check_counts := C_check_counts (P := P) (w := w) (base := base) E
  have C_is_count := C_is_count (P := P) (w := w) (base := base) E
  have C_most_h := C_most_h (P := P) (w := w) (base := base) E
  have hN := S_h_with.nd
  exact fn_all (l := []) S_h_with rfl (fun i h => by simp [fxOf] at h) fun f cdv A outer s H W hr =>
    db_cons (qexpr (qcall C_check_counts hr (qacons (qv 0) (da_nil)))) (db_cons (qexpr (qcall C_check hr (qacons (qcall C_is_count hr (qacons (qv 1) (da_nil))) (da_nil)))) (db_one (ds_ret (qcall C_most_h hr (qacons (qv 0) (qacons (qv 1) (da_nil)))))))
theorem C_h_with (E : Env K mg) : CalOk P w K mg base 5 "h_with" 2 F_h_with := cal_of E.f_h_with rfl (B_h_with E) (fun _ _ _ _ _ _ us hl => match us, hl with | [_, _], _ => rfl)
noncomputable def g_next_step : Sm Fl := sSeq (sDrop (sCall 1 F_check_counts (aCons (sVar 0) (aNil)))) (sSeq (sDrop (sCall 1 F_check (aCons (sIsi "bool" (sVar 1)) (aNil)))) (sSeq (sAsg (rN 2) (sBin dAdd (sCall 1 F_h_by (aCons (sVar 0) (aNil))) (sLit (.int 1)))) (sSeq (sIfS (tAnd' (tCmp' dLt (sBlt dLen (aCons (sVar 0) (aNil))) (sVar 2)) (tNot' (tOfS (sVar 1)))) (sRet (fxs []) (sLit .non)) (sNx)) (sRet (fxs []) (sCall 2 F_lacking (aCons (sLst (aStar (sVar 0) (aCons (sLit (.int 0)) (aNil)))) (aCons (sVar 2) (aNil))))))))
noncomputable def F_next_step : Sm Rv := sFun 2 3 false g_next_step
theorem S_next_step : FnScope ["counts", "may_come", "h"] ["counts", "may_come"] (defScope (topS 27)) := ⟨rfl, rfl, rfl, by decide +kernel, rfl, by decide +kernel, by decide +kernel⟩
theorem B_next_step (E : Env K mg) : ∀ f fd, Fun K "next_step" "next_step" (topS 27) f fd → FnOk P w K mg base (L2.CX P w) 5 f fd ["counts", "may_come"] (spD K mg 2 F_next_step) := by
  have C_check := C_check (P := P) (w := w) (base := base) E
  have C_check_counts := C_check_counts (P := P) (w := w) (base := base) E
  have C_h_by := C_h_by (P := P) (w := w) (base := base) E
  have C_lacking := C_lacking (P := P) (w := w) (base := base) E
  have hN := S_next_step.nd
  exact fn_all (l := []) S_next_step rfl (fun i h => by simp [fxOf] at h) fun f cdv A outer s H W hr =>
    db_cons (qexpr (qcall C_check_counts hr (qacons (qv 0) (da_nil)))) (db_cons (qexpr (qcall C_check hr (qacons (qisi E.z_isinstance E.z_bool (qv 1)) (da_nil)))) (db_cons (qset 2 hN (de_bin sd_add (qcall C_h_by hr (qacons (qv 0) (da_nil))) (de_int))) (db_cons (ds_if (PDW.pdt (dw_and (qtcmp (sd_lt (hu64 hr)) (qblt sn_len E.z_len (qacons (qv 0) (da_nil))) (qv 2)) (dw_and1 (dt_not (qtv (qv 1)))))) (db_one (ds_ret (de_non))) (db_nil)) (db_one (ds_ret (qcall C_lacking hr (qacons (de_lst (qastar (qv 0) (qacons (de_int) (da_nil)))) (qacons (qv 2) (da_nil)))))))))
theorem C_next_step (E : Env K mg) : CalOk P w K mg base 5 "next_step" 2 F_next_step := cal_of E.f_next_step rfl (B_next_step E) (fun _ _ _ _ _ _ us hl => match us, hl with | [_, _], _ => rfl)
noncomputable def g__law_is_put : Sm Fl := sSeq (sAsg (rN 2) (sCallIO 2 F__law_take (aCons (sVar 0) (aCons (sCallIO 2 F__law_pick (aCons (sVar 0) (aCons (sLst (aCons (sLit (.int 5)) (aCons (sLit (.int 100)) (aCons (sLit (.int 5000)) (aNil))))) (aNil)))) (aNil))))) (sSeq (sAsgs [rN 3, rN 4] (aCons (sCall 2 F_h_with (aCons (sVar 1) (aCons (sVar 2) (aNil)))) (aCons (sCall 2 F_best_putting (aCons (sVar 1) (aCons (sVar 2) (aNil)))) (aNil)))) (sSeq (sIfS (tOr' (tCmp' dNe (sBlt dLen (aCons (sVar 4) (aNil))) (sBlt dLen (aCons (sVar 1) (aNil)))) (tOr' (tCmp' dNe (sCall 1 F_h_of (aCons (sVar 4) (aNil))) (sVar 3)) (tOr' (tCmp' dGt (sBin dSub (sBlt dSum (aCons (sVar 4) (aNil))) (sBlt dSum (aCons (sVar 1) (aNil)))) (sVar 2)) (tCmp' dNe (sLc (iRange1 (sBlt dLen (aCons (sVar 4) (aNil)))) (gN 9) (tCmp' dLt (sBin dIx (sVar 4) (sVar 9)) (sBin dIx (sVar 1) (sVar 9))) (sVar 9) [9]) (sLst (aNil)))))) (sRet (fxs [0]) (sLit (.bl false))) (sNx)) (sSeq (sAsg (rN 5) (sRev (sBlt dSorted (aCons (sVar 1) (aNil))))) (sSeq (sIfS (tAnd' (tCmp' dLt (sVar 3) (sBlt dLen (aCons (sVar 1) (aNil)))) (tCmp' dLe (sBlt dSum (aCons (sLc (iAny (sSl (sVar 5) (pPart none) (pPart (some (sBin dAdd (sVar 3) (sLit (.int 1))))))) (gN 14) (tYesD) (sBlt dMax (aCons (sLit (.int 0)) (aCons (sBin dSub (sBin dAdd (sVar 3) (sLit (.int 1))) (sVar 14)) (aNil)))) [14]) (aNil))) (sVar 2))) (sRet (fxs [0]) (sLit (.bl false))) (sNx)) (sSeq (sFor (fxs [0]) (iRange1 (sLit (.int 5))) (gN 6) (sSeq (sAsgs [rN 7, rN 8] (aCons (sBlt dList (aCons (sVar 1) (aNil))) (aCons (sVar 2) (aNil)))) (sSeq (sFor (fxs [0]) (iRange1 (sCallIO 2 F__law_take (aCons (sVar 0) (aCons (sLit (.int 9)) (aNil))))) (gN 9) (sIfS (tCmp' dNe (sVar 7) (sLst (aNil))) (sSeq (sAsgs [rN 10, rN 11] (aCons (sCallIO 2 F__law_take (aCons (sVar 0) (aCons (sBlt dMax (aCons (sLit (.int 1)) (aCons (sBlt dLen (aCons (sVar 7) (aNil))) (aNil)))) (aNil)))) (aCons (sCallIO 2 F__law_take (aCons (sVar 0) (aCons (sBin dAdd (sVar 8) (sLit (.int 1))) (aNil)))) (aNil)))) (sAsgs [rSub 7 (sVar 10) upLst, rN 8] (aCons (sBlt dMin (aCons (sBin dPow (sLit (.int 10)) (sLit (.int 6))) (aCons (sBin dAdd (sBin dIx (sVar 7) (sVar 10)) (sVar 11)) (aNil)))) (aCons (sBin dSub (sVar 8) (sVar 11)) (aNil))))) (sNx))) (sIfS (tOr' (tCmp' dGt (sCall 1 F_h_of (aCons (sVar 7) (aNil))) (sVar 3)) (tOr' (tCmp' dLt (sCall 1 F_h_of (aCons (sVar 7) (aNil))) (sCall 1 F_h_of (aCons (sVar 1) (aNil)))) (tOr' (tCmp' dLt (sCall 1 F_g_of (aCons (sVar 7) (aNil))) (sCall 1 F_g_of (aCons (sVar 1) (aNil)))) (tCmp' dLt (sCall 1 F_w_of (aCons (sVar 7) (aNil))) (sCall 1 F_w_of (aCons (sVar 1) (aNil))))))) (sRet (fxs [0]) (sLit (.bl false))) (sNx))))) (sSeq (sAsg (rN 12) (sCall 1 F_h_of (aCons (sVar 1) (aNil)))) (sSeq (sAsg (rN 13) (sCall 2 F_next_step (aCons (sVar 1) (aCons (sLit (.bl false)) (aNil))))) (sSeq (sIfS (tCmp' dNe (sOfT (tCmp' dIs (sVar 13) (sLit .non))) (sOfT (tCmp' dEq (sBlt dLen (aCons (sVar 1) (aNil))) (sVar 12)))) (sRet (fxs [0]) (sLit (.bl false))) (sNx)) (sRet (fxs [0]) (sOr (sOfT (tCmp' dIs (sVar 13) (sLit .non))) (sAnd (sOfT (tCmp' dGt (sCall 2 F_h_with (aCons (sVar 1) (aCons (sVar 13) (aNil)))) (sVar 12))) (sAnd (sOr (sOfT (tCmp' dEq (sVar 13) (sLit (.int 0)))) (sOfT (tCmp' dEq (sCall 2 F_h_with (aCons (sVar 1) (aCons (sBin dSub (sVar 13) (sLit (.int 1))) (aNil)))) (sVar 12)))) (sOfT (tCmp' dEq (sCall 2 F_next_step (aCons (sVar 1) (aCons (sLit (.bl true)) (aNil)))) (sVar 13)))))))))))))))
noncomputable def F__law_is_put : Sm Rv := sFun 2 15 true g__law_is_put
theorem S__law_is_put : FnScope ["draws", "counts", "more", "best", "put", "falling_v", "turn", "other", "left", "k", "at", "much", "h", "step", "one"] ["draws", "counts"] (defScope (topS 46)) := ⟨rfl, rfl, rfl, by decide +kernel, rfl, by decide +kernel, by decide +kernel⟩
theorem B__law_is_put (E : Env K mg) : ∀ f fd, Fun K "_law_is_put" "_law_is_put" (topS 46) f fd → FnOk P w K mg base (L2.CX P w) 6 f fd ["draws", "counts"] (spD K mg 2 F__law_is_put) := by
  have C__law_pick := C__law_pick (P := P) (w := w) (base := base) E
  have C__law_take := C__law_take (P := P) (w := w) (base := base) E
  have C_best_putting := C_best_putting (P := P) (w := w) (base := base) E
  have C_g_of := C_g_of (P := P) (w := w) (base := base) E
  have C_h_of := C_h_of (P := P) (w := w) (base := base) E
  have C_h_with := C_h_with (P := P) (w := w) (base := base) E
  have C_next_step := C_next_step (P := P) (w := w) (base := base) E
  have C_w_of := C_w_of (P := P) (w := w) (base := base) E
  have hN := S__law_is_put.nd
  exact fn_all (l := [0]) S__law_is_put rfl (fun i h => by unfold fxOf at h; simp at h; subst h; rfl) fun f cdv A outer s H W hr =>
    db_cons (qset 2 hN (qcallIO C__law_take hr (qacons (qv 0) (qacons (qcallIO C__law_pick hr (qacons (qv 0) (qacons (de_lst (qacons (de_int) (qacons (de_int) (qacons (de_int) (da_nil))))) (da_nil)))) (da_nil))))) (db_cons (qasgs rfl (qacons (qcall C_h_with hr (qacons (qv 1) (qacons (qv 2) (da_nil)))) (qacons (qcall C_best_putting hr (qacons (qv 1) (qacons (qv 2) (da_nil)))) (da_nil))) (qrc (qrn 3 hN) (qrc (qrn 4 hN) (drs_nil)))) (db_cons (ds_if (PDW.pdt (dw_or (qtcmp (sd_ne (hu64 hr)) (qblt sn_len E.z_len (qacons (qv 4) (da_nil))) (qblt sn_len E.z_len (qacons (qv 1) (da_nil)))) (dw_or (qtcmp (sd_ne (hu64 hr)) (qcall C_h_of hr (qacons (qv 4) (da_nil))) (qv 3)) (dw_or (qtcmp (sd_gt (hu64 hr)) (de_bin sd_sub (qblt (sn_sum rfl) E.z_sum (qacons (qv 4) (da_nil))) (qblt (sn_sum rfl) E.z_sum (qacons (qv 1) (da_nil)))) (qv 2)) (dw_or1 (qtcmp (sd_ne (hu64 hr)) (qlc [("k", 9)] rfl hN (qir1 E.z_range (qblt sn_len E.z_len (qacons (qv 4) (da_nil)))) (fun _ _ _ _ _ => qgn 9 hN) (fun _ _ _ _ _ => dts_one (qtcmp (sd_lt (hu64 hr)) (qix si_ix (qv 4) (qv 9)) (qix si_ix (qv 1) (qv 9)))) (fun _ _ _ _ _ => qv 9)) (de_lst (da_nil)))))))) (db_one (ds_ret (de_bl))) (db_nil)) (db_cons (qset 5 hN (de_rev (qblt (sn_sorted (hu70 hr)) E.z_sorted (qacons (qv 1) (da_nil))))) (db_cons (ds_if (PDW.pdt (dw_and (qtcmp (sd_lt (hu64 hr)) (qv 3) (qblt sn_len E.z_len (qacons (qv 1) (da_nil)))) (dw_and1 (qtcmp (sd_le (hu64 hr)) (qblt (sn_sum rfl) E.z_sum (qacons (qlc [("one", 14)] rfl hN (di_any (de_sl (qv 5) (dp_none) (dp_some (de_bin sd_add (qv 3) (de_int))))) (fun _ _ _ _ _ => qgn 14 hN) (fun _ _ _ _ _ => dts_nil) (fun _ _ _ _ _ => qblt (sn_max rfl) E.z_max (qacons (de_int) (qacons (de_bin sd_sub (de_bin sd_add (qv 3) (de_int)) (qv 14)) (da_nil))))) (da_nil))) (qv 2))))) (db_one (ds_ret (de_bl))) (db_nil)) (db_cons (qfor (passes_of rfl) rfl fxs_same (qir1 E.z_range (de_int)) (qgn 6 hN) (db_cons (qpar 7 8 rfl hN (qacons (qty sn_list E.z_list (qacons (qv 1) (da_nil))) (qacons (qv 2) (da_nil)))) (db_cons (qfor (passes_of rfl) rfl fxs_same (qir1 E.z_range (qcallIO C__law_take hr (qacons (qv 0) (qacons (de_int) (da_nil))))) (qgn 9 hN) (db_one (ds_if (qtcmp (sd_ne (hu64 hr)) (qv 7) (de_lst (da_nil))) (db_cons (qpar 10 11 rfl hN (qacons (qcallIO C__law_take hr (qacons (qv 0) (qacons (qblt (sn_max rfl) E.z_max (qacons (de_int) (qacons (qblt sn_len E.z_len (qacons (qv 7) (da_nil))) (da_nil)))) (da_nil)))) (qacons (qcallIO C__law_take hr (qacons (qv 0) (qacons (de_bin sd_add (qv 8) (de_int)) (da_nil)))) (da_nil)))) (db_one (qasgs rfl (qacons (qblt (sn_min rfl) E.z_min (qacons (de_bin sd_pow (de_int) (de_int)) (qacons (de_bin sd_add (qix si_ix (qv 7) (qv 10)) (qv 11)) (da_nil)))) (qacons (de_bin sd_sub (qv 8) (qv 11)) (da_nil))) (qrc (qrs 7 (qv 10)) (qrc (qrn 8 hN) (drs_nil)))))) (db_nil)))) (db_one (ds_if (PDW.pdt (dw_or (qtcmp (sd_gt (hu64 hr)) (qcall C_h_of hr (qacons (qv 7) (da_nil))) (qv 3)) (dw_or (qtcmp (sd_lt (hu64 hr)) (qcall C_h_of hr (qacons (qv 7) (da_nil))) (qcall C_h_of hr (qacons (qv 1) (da_nil)))) (dw_or (qtcmp (sd_lt (hu64 hr)) (qcall C_g_of hr (qacons (qv 7) (da_nil))) (qcall C_g_of hr (qacons (qv 1) (da_nil)))) (dw_or1 (qtcmp (sd_lt (hu64 hr)) (qcall C_w_of hr (qacons (qv 7) (da_nil))) (qcall C_w_of hr (qacons (qv 1) (da_nil))))))))) (db_one (ds_ret (de_bl))) (db_nil)))))) (db_cons (qset 12 hN (qcall C_h_of hr (qacons (qv 1) (da_nil)))) (db_cons (qset 13 hN (qcall C_next_step hr (qacons (qv 1) (qacons (de_bl) (da_nil))))) (db_cons (ds_if (qtcmp (sd_ne (hu64 hr)) (qcmp sd_is (qv 13) (de_non)) (qcmp (sd_eq (hu64 hr)) (qblt sn_len E.z_len (qacons (qv 1) (da_nil))) (qv 12))) (db_one (ds_ret (de_bl))) (db_nil)) (db_one (ds_ret (de_or (qcmp sd_is (qv 13) (de_non)) (de_one (de_and (qcmp (sd_gt (hu64 hr)) (qcall C_h_with hr (qacons (qv 1) (qacons (qv 13) (da_nil)))) (qv 12)) (de_and (de_or (qcmp (sd_eq (hu64 hr)) (qv 13) (de_int)) (de_one (qcmp (sd_eq (hu64 hr)) (qcall C_h_with hr (qacons (qv 1) (qacons (de_bin sd_sub (qv 13) (de_int)) (da_nil)))) (qv 12)))) (de_one (qcmp (sd_eq (hu64 hr)) (qcall C_next_step hr (qacons (qv 1) (qacons (de_bl) (da_nil)))) (qv 13)))))))))))))))))
theorem C__law_is_put (E : Env K mg) : CalOk P w K mg base 6 "_law_is_put" 2 F__law_is_put := cal_of E.f__law_is_put rfl (B__law_is_put E) (fun _ _ _ _ _ _ us hl => match us, hl with | [_, _], _ => rfl)
noncomputable def g_least_counts : Sm Fl := sSeq (sDrop (sCall 1 F_check (aCons (sCall 3 F_is_within (aCons (sVar 0) (aCons (sLit (.int 0)) (aCons (sLit (.int 200)) (aNil))))) (aNil)))) (sRet (fxs []) (sBin dMul (sLst (aCons (sVar 0) (aNil))) (sVar 0)))
noncomputable def F_least_counts : Sm Rv := sFun 1 1 false g_least_counts
theorem S_least_counts : FnScope ["h"] ["h"] (defScope (topS 28)) := ⟨rfl, rfl, rfl, by decide +kernel, rfl, by decide +kernel, by decide +kernel⟩
theorem B_least_counts (E : Env K mg) : ∀ f fd, Fun K "least_counts" "least_counts" (topS 28) f fd → FnOk P w K mg base (L2.CX P w) 3 f fd ["h"] (spD K mg 1 F_least_counts) := by
  have C_check := C_check (P := P) (w := w) (base := base) E
  have C_is_within := C_is_within (P := P) (w := w) (base := base) E
  have hN := S_least_counts.nd
  exact fn_all (l := []) S_least_counts rfl (fun i h => by simp [fxOf] at h) fun f cdv A outer s H W hr =>
    db_cons (qexpr (qcall C_check hr (qacons (qcall C_is_within hr (qacons (qv 0) (qacons (de_int) (qacons (qgi E.c_MOST_H) (da_nil))))) (da_nil)))) (db_one (ds_ret (de_bin sd_mul (de_lst (qacons (qv 0) (da_nil))) (qv 0))))
theorem C_least_counts (E : Env K mg) : CalOk P w K mg base 3 "least_counts" 1 F_least_counts := cal_of E.f_least_counts rfl (B_least_counts E) (fun _ _ _ _ _ _ us hl => match us, hl with | [_], _ => rfl)
noncomputable def g_shared : Sm Fl := sSeq (sAsgs [rN 0, rN 1] (aCons (sBlt dAbs (aCons (sVar 0) (aNil))) (aCons (sBlt dAbs (aCons (sVar 1) (aNil))) (aNil)))) (sSeq (whGo (tCmp' dGt (sVar 1) (sLit (.int 0))) (sAsgs [rN 0, rN 1] (aCons (sVar 1) (aCons (sBin dMod (sVar 0) (sVar 1)) (aNil)))) fuel) (sRet (fxs []) (sVar 0)))
noncomputable def F_shared : Sm Rv := sFun 2 2 false g_shared
theorem S_shared : FnScope ["one", "other"] ["one", "other"] (defScope (topS 7)) := ⟨rfl, rfl, rfl, by decide +kernel, rfl, by decide +kernel, by decide +kernel⟩
theorem B_shared (E : Env K mg) : ∀ f fd, Fun K "shared" "shared" (topS 7) f fd → FnOk P w K mg base (L2.CX P w) 1 f fd ["one", "other"] (spD K mg 2 F_shared) := by
  have hN := S_shared.nd
  exact fn_all (l := []) S_shared rfl (fun i h => by simp [fxOf] at h) fun f cdv A outer s H W hr =>
    db_cons (qpar 0 1 rfl hN (qacons (qblt sn_abs E.z_abs (qacons (qv 0) (da_nil))) (qacons (qblt sn_abs E.z_abs (qacons (qv 1) (da_nil))) (da_nil)))) (db_cons (ds_while (passes_of rfl) (qtcmp (sd_gt (hu64 hr)) (qv 1) (de_int)) (db_one (qpar 0 1 rfl hN (qacons (qv 1) (qacons (de_bin sd_mod (qv 0) (qv 1)) (da_nil)))))) (db_one (ds_ret (qv 0))))
theorem C_shared (E : Env K mg) : CalOk P w K mg base 1 "shared" 2 F_shared := cal_of E.f_shared rfl (B_shared E) (fun _ _ _ _ _ _ us hl => match us, hl with | [_, _], _ => rfl)
noncomputable def g_ratio : Sm Fl := sSeq (sAsg (rN 2) (sCall 2 F_shared (aCons (sVar 0) (aCons (sVar 1) (aNil))))) (sRet (fxs []) (sTup (aCons (sBin dDiv (sVar 0) (sVar 2)) (aCons (sBin dDiv (sVar 1) (sVar 2)) (aNil)))))
noncomputable def F_ratio : Sm Rv := sFun 2 3 false g_ratio
theorem S_ratio : FnScope ["number", "divisor", "least"] ["number", "divisor"] (defScope (topS 8)) := ⟨rfl, rfl, rfl, by decide +kernel, rfl, by decide +kernel, by decide +kernel⟩
theorem B_ratio (E : Env K mg) : ∀ f fd, Fun K "ratio" "ratio" (topS 8) f fd → FnOk P w K mg base (L2.CX P w) 2 f fd ["number", "divisor"] (spD K mg 2 F_ratio) := by
  have C_shared := C_shared (P := P) (w := w) (base := base) E
  have hN := S_ratio.nd
  exact fn_all (l := []) S_ratio rfl (fun i h => by simp [fxOf] at h) fun f cdv A outer s H W hr =>
    db_cons (qset 2 hN (qcall C_shared hr (qacons (qv 0) (qacons (qv 1) (da_nil))))) (db_one (ds_ret (de_tup (qacons (de_bin sd_div (qv 0) (qv 2)) (qacons (de_bin sd_div (qv 1) (qv 2)) (da_nil))))))
theorem C_ratio (E : Env K mg) : CalOk P w K mg base 2 "ratio" 2 F_ratio := cal_of E.f_ratio rfl (B_ratio E) (fun _ _ _ _ _ _ us hl => match us, hl with | [_, _], _ => rfl)
noncomputable def g_mean_of : Sm Fl := sSeq (sDrop (sCall 1 F_check_counts (aCons (sVar 0) (aNil)))) (sSeq (sIfS (tCmp' dEq (sBlt dLen (aCons (sVar 0) (aNil))) (sLit (.int 0))) (sBad) (sNx)) (sRet (fxs []) (sCall 2 F_ratio (aCons (sBlt dSum (aCons (sVar 0) (aNil))) (aCons (sBlt dLen (aCons (sVar 0) (aNil))) (aNil))))))
noncomputable def F_mean_of : Sm Rv := sFun 1 1 false g_mean_of
theorem S_mean_of : FnScope ["counts"] ["counts"] (defScope (topS 32)) := ⟨rfl, rfl, rfl, by decide +kernel, rfl, by decide +kernel, by decide +kernel⟩
theorem B_mean_of (E : Env K mg) : ∀ f fd, Fun K "mean_of" "mean_of" (topS 32) f fd → FnOk P w K mg base (L2.CX P w) 5 f fd ["counts"] (spD K mg 1 F_mean_of) := by
  have C_check_counts := C_check_counts (P := P) (w := w) (base := base) E
  have C_ratio := C_ratio (P := P) (w := w) (base := base) E
  have hN := S_mean_of.nd
  exact fn_all (l := []) S_mean_of rfl (fun i h => by simp [fxOf] at h) fun f cdv A outer s H W hr =>
    db_cons (qexpr (qcall C_check_counts hr (qacons (qv 0) (da_nil)))) (db_cons (ds_if (qtcmp (sd_eq (hu64 hr)) (qblt sn_len E.z_len (qacons (qv 0) (da_nil))) (de_int)) (db_one (ds_never)) (db_nil)) (db_one (ds_ret (qcall C_ratio hr (qacons (qblt (sn_sum rfl) E.z_sum (qacons (qv 0) (da_nil))) (qacons (qblt sn_len E.z_len (qacons (qv 0) (da_nil))) (da_nil)))))))
theorem C_mean_of (E : Env K mg) : CalOk P w K mg base 5 "mean_of" 1 F_mean_of := cal_of E.f_mean_of rfl (B_mean_of E) (fun _ _ _ _ _ _ us hl => match us, hl with | [_], _ => rfl)
noncomputable def g_middle_of : Sm Fl := sSeq (sDrop (sCall 1 F_check_counts (aCons (sVar 0) (aNil)))) (sSeq (sIfS (tCmp' dEq (sBlt dLen (aCons (sVar 0) (aNil))) (sLit (.int 0))) (sBad) (sNx)) (sRet (fxs []) (sBin dIx (sBlt dSorted (aCons (sVar 0) (aNil))) (sBin dDiv (sBin dSub (sBlt dLen (aCons (sVar 0) (aNil))) (sLit (.int 1))) (sLit (.int 2))))))
noncomputable def F_middle_of : Sm Rv := sFun 1 1 false g_middle_of
theorem S_middle_of : FnScope ["counts"] ["counts"] (defScope (topS 33)) := ⟨rfl, rfl, rfl, by decide +kernel, rfl, by decide +kernel, by decide +kernel⟩
theorem B_middle_of (E : Env K mg) : ∀ f fd, Fun K "middle_of" "middle_of" (topS 33) f fd → FnOk P w K mg base (L2.CX P w) 5 f fd ["counts"] (spD K mg 1 F_middle_of) := by
  have C_check_counts := C_check_counts (P := P) (w := w) (base := base) E
  have hN := S_middle_of.nd
  exact fn_all (l := []) S_middle_of rfl (fun i h => by simp [fxOf] at h) fun f cdv A outer s H W hr =>
    db_cons (qexpr (qcall C_check_counts hr (qacons (qv 0) (da_nil)))) (db_cons (ds_if (qtcmp (sd_eq (hu64 hr)) (qblt sn_len E.z_len (qacons (qv 0) (da_nil))) (de_int)) (db_one (ds_never)) (db_nil)) (db_one (ds_ret (qix si_ix (qblt (sn_sorted (hu70 hr)) E.z_sorted (qacons (qv 0) (da_nil))) (de_bin sd_div (de_bin sd_sub (qblt sn_len E.z_len (qacons (qv 0) (da_nil))) (de_int)) (de_int))))))
theorem C_middle_of (E : Env K mg) : CalOk P w K mg base 5 "middle_of" 1 F_middle_of := cal_of E.f_middle_of rfl (B_middle_of E) (fun _ _ _ _ _ _ us hl => match us, hl with | [_], _ => rfl)
noncomputable def g_ranks : Sm Fl := sSeq (sDrop (sCall 1 F_check (aCons (sAnd (sIsi "list" (sVar 0)) (sAnd (sOfT (tChn dLe dLe (sLit (.int 1)) (sBlt dLen (aCons (sVar 0) (aNil))) (sLit (.int 50)))) (sBlt dAll (aCons (sLc (iAny (sVar 0)) (gN 2) (tYesD) (sCall 1 F_are_counts (aCons (sVar 2) (aNil))) [2]) (aNil))))) (aNil)))) (sSeq (sAsg (rN 1) (sLc (iAny (sVar 0)) (gN 2) (tYesD) (sTup (aCons (sCall 1 F_h_by (aCons (sVar 2) (aNil))) (aCons (sCall 1 F_g_by (aCons (sVar 2) (aNil))) (aCons (sBlt dSum (aCons (sVar 2) (aNil))) (aNil))))) [2])) (sRet (fxs []) (sLc (iAny (sVar 1)) (gN 3) (tYesD) (sBin dAdd (sLit (.int 1)) (sBlt dLen (aCons (sLc (iAny (sVar 1)) (gN 4) (tCmp' dGt (sVar 4) (sVar 3)) (sLit (.int 1)) [4]) (aNil)))) [3])))
noncomputable def F_ranks : Sm Rv := sFun 1 5 false g_ranks
theorem S_ranks : FnScope ["rows", "worths", "row", "one", "other"] ["rows"] (defScope (topS 35)) := ⟨rfl, rfl, rfl, by decide +kernel, rfl, by decide +kernel, by decide +kernel⟩
theorem B_ranks (E : Env K mg) : ∀ f fd, Fun K "ranks" "ranks" (topS 35) f fd → FnOk P w K mg base (L2.CX P w) 4 f fd ["rows"] (spD K mg 1 F_ranks) := by
  have C_are_counts := C_are_counts (P := P) (w := w) (base := base) E
  have C_check := C_check (P := P) (w := w) (base := base) E
  have C_g_by := C_g_by (P := P) (w := w) (base := base) E
  have C_h_by := C_h_by (P := P) (w := w) (base := base) E
  have hN := S_ranks.nd
  exact fn_all (l := []) S_ranks rfl (fun i h => by simp [fxOf] at h) fun f cdv A outer s H W hr =>
    db_cons (qexpr (qcall C_check hr (qacons (de_and (qisi E.z_isinstance E.z_list (qv 0)) (de_and (qchn (sd_le (hu64 hr)) (sd_le (hu64 hr)) (de_int) (qblt sn_len E.z_len (qacons (qv 0) (da_nil))) (qgi E.c_MOST_ROWS)) (de_one (qblt (sn_all rfl) E.z_all (qacons (qlc [("row", 2)] rfl hN (di_any (qv 0)) (fun _ _ _ _ _ => qgn 2 hN) (fun _ _ _ _ _ => dts_nil) (fun _ _ _ _ _ => qcall C_are_counts hr (qacons (qv 2) (da_nil)))) (da_nil)))))) (da_nil)))) (db_cons (qset 1 hN (qlc [("row", 2)] rfl hN (di_any (qv 0)) (fun _ _ _ _ _ => qgn 2 hN) (fun _ _ _ _ _ => dts_nil) (fun _ _ _ _ _ => de_tup (qacons (qcall C_h_by hr (qacons (qv 2) (da_nil))) (qacons (qcall C_g_by hr (qacons (qv 2) (da_nil))) (qacons (qblt (sn_sum rfl) E.z_sum (qacons (qv 2) (da_nil))) (da_nil))))))) (db_one (ds_ret (qlc [("one", 3)] rfl hN (di_any (qv 1)) (fun _ _ _ _ _ => qgn 3 hN) (fun _ _ _ _ _ => dts_nil) (fun _ _ _ _ _ => de_bin sd_add (de_int) (qblt sn_len E.z_len (qacons (qlc [("other", 4)] rfl hN (di_any (qv 1)) (fun _ _ _ _ _ => qgn 4 hN) (fun _ _ _ _ _ => dts_one (qtcmp (sd_gt (hu64 hr)) (qv 4) (qv 3))) (fun _ _ _ _ _ => de_int)) (da_nil))))))))
theorem C_ranks (E : Env K mg) : CalOk P w K mg base 4 "ranks" 1 F_ranks := cal_of E.f_ranks rfl (B_ranks E) (fun _ _ _ _ _ _ us hl => match us, hl with | [_], _ => rfl)
noncomputable def g_law : Sm Fl := sSeq (sAsg (rN 1) (sCall 1 F__law_draws (aCons (sVar 0) (aNil)))) (sSeq (sFor (fxs []) (iRange1 (sLit (.int 3))) (gN 2) (sSeq (sAsgs [rN 3, rN 4] (aCons (sCallIO 2 F__law_counts (aCons (sVar 1) (aCons (sCallIO 2 F__law_pick (aCons (sVar 1) (aCons (sLst (aCons (sLit (.int 10)) (aCons (sLit (.int 250)) (aNil)))) (aNil)))) (aNil)))) (aCons (sCallIO 2 F__law_counts (aCons (sVar 1) (aCons (sLit (.int 250)) (aNil)))) (aNil)))) (sSeq (sAsg (rN 5) (sBlt dList (aCons (sVar 3) (aNil)))) (sSeq (sIfS (tOr' (tNot' (tOfS (sCall 1 F__law_is_measured (aCons (sVar 3) (aNil))))) (tOr' (tNot' (tOfS (sCallIO 2 F__law_is_put (aCons (sVar 1) (aCons (sVar 3) (aNil)))))) (tCmp' dNe (sVar 3) (sVar 5)))) (sRet (fxs []) (sLit (.bl false))) (sNx)) (sSeq (sAsg (rN 6) (sBin dAdd (sVar 3) (sVar 4))) (sSeq (sIfS (tOr' (tNot' (tChn dLe dLe (sBlt dMax (aCons (sCall 1 F_h_of (aCons (sVar 3) (aNil))) (aCons (sCall 1 F_h_of (aCons (sVar 4) (aNil))) (aNil)))) (sCall 1 F_h_of (aCons (sVar 6) (aNil))) (sBin dAdd (sCall 1 F_h_of (aCons (sVar 3) (aNil))) (sCall 1 F_h_of (aCons (sVar 4) (aNil)))))) (tOr' (tCmp' dLt (sCall 1 F_g_of (aCons (sVar 6) (aNil))) (sCall 1 F_g_of (aCons (sVar 3) (aNil)))) (tCmp' dLt (sCall 1 F_w_of (aCons (sVar 6) (aNil))) (sCall 1 F_w_of (aCons (sVar 4) (aNil)))))) (sRet (fxs []) (sLit (.bl false))) (sNx)) (sSeq (sIfS (tCmp' dNe (sVar 6) (sLst (aNil))) (sSeq (sAsg (rT [gN 7, gN 8]) (sCall 1 F_mean_of (aCons (sVar 6) (aNil)))) (sSeq (sAsg (rN 9) (sCall 1 F_middle_of (aCons (sVar 6) (aNil)))) (sIfS (tOr' (tCmp' dNe (sBin dMul (sVar 7) (sBlt dLen (aCons (sVar 6) (aNil)))) (sBin dMul (sVar 8) (sBlt dSum (aCons (sVar 6) (aNil))))) (tOr' (tCmp' dLt (sBin dMul (sLit (.int 2)) (sCall 2 F_at_least (aCons (sVar 6) (aCons (sVar 9) (aNil))))) (sBlt dLen (aCons (sVar 6) (aNil)))) (tCmp' dGt (sBin dMul (sLit (.int 2)) (sCall 2 F_at_least (aCons (sVar 6) (aCons (sBin dAdd (sVar 9) (sLit (.int 1))) (aNil))))) (sBlt dLen (aCons (sVar 6) (aNil)))))) (sRet (fxs []) (sLit (.bl false))) (sNx)))) (sNx)) (sSeq (sAsg (rN 10) (sBin dAdd (sLst (aCons (sVar 3) (aCons (sVar 4) (aCons (sVar 6) (aCons (sRev (sVar 3)) (aNil)))))) (sLc (iRange1 (sCallIO 2 F__law_take (aCons (sVar 1) (aCons (sLit (.int 20)) (aNil))))) (gN 15) (tYesD) (sCallIO 2 F__law_counts (aCons (sVar 1) (aCons (sLit (.int 20)) (aNil)))) [15]))) (sSeq (sAsg (rN 11) (sCall 1 F_ranks (aCons (sVar 10) (aNil)))) (sSeq (sAsg (rN 12) (sLc (iAny (sVar 10)) (gN 14) (tYesD) (sTup (aCons (sCall 1 F_h_of (aCons (sVar 14) (aNil))) (aCons (sCall 1 F_g_of (aCons (sVar 14) (aNil))) (aCons (sBlt dSum (aCons (sVar 14) (aNil))) (aNil))))) [14])) (sSeq (sIfS (tOr' (tCmp' dNe (sBin dIx (sVar 11) (sLit (.int 0))) (sBin dIx (sVar 11) (sLit (.int 3)))) (tCmp' dNe (sBlt dMin (aCons (sVar 11) (aNil))) (sLit (.int 1)))) (sRet (fxs []) (sLit (.bl false))) (sNx)) (sSeq (sIfS (tCmp' dNe (sLc (iRange1 (sBlt dLen (aCons (sVar 10) (aNil)))) (gN 15) (tCmp' dNe (sBin dIx (sVar 11) (sVar 15)) (sBin dAdd (sLit (.int 1)) (sBlt dLen (aCons (sLc (iAny (sVar 12)) (gN 16) (tCmp' dGt (sVar 16) (sBin dIx (sVar 12) (sVar 15))) (sVar 16) [16]) (aNil))))) (sVar 15) [15]) (sLst (aNil))) (sRet (fxs []) (sLit (.bl false))) (sNx)) (sSeq (sAsg (rN 13) (sCallIO 2 F__law_take (aCons (sVar 1) (aCons (sLit (.int 201)) (aNil))))) (sIfS (tOr' (tCmp' dNe (sCall 1 F_h_of (aCons (sCall 1 F_least_counts (aCons (sVar 13) (aNil))) (aNil))) (sVar 13)) (tOr' (tCmp' dNe (sBlt dSum (aCons (sCall 1 F_least_counts (aCons (sVar 13) (aNil))) (aNil))) (sBin dMul (sVar 13) (sVar 13))) (tCmp' dNe (sCall 1 F_tail_of (aCons (sCall 1 F_least_counts (aCons (sVar 13) (aNil))) (aNil))) (sLit (.int 0))))) (sRet (fxs []) (sLit (.bl false))) (sNx))))))))))))))) (sRet (fxs []) (sLit (.bl true))))
noncomputable def F_law : Sm Rv := sFun 1 17 false g_law
theorem S_law : FnScope ["script", "draws", "turn", "counts", "other", "kept", "both", "n", "d", "middle", "rows", "told", "worths", "h", "row", "k", "one"] ["script"] (defScope (topS 47)) := ⟨rfl, rfl, rfl, by decide +kernel, rfl, by decide +kernel, by decide +kernel⟩
theorem B_law (E : Env K mg) : ∀ f fd, Fun K "law" "law" (topS 47) f fd → FnOk P w K mg base (L2.CX P w) 7 f fd ["script"] (spD K mg 1 F_law) := by
  have C__law_counts := C__law_counts (P := P) (w := w) (base := base) E
  have C__law_draws := C__law_draws (P := P) (w := w) (base := base) E
  have C__law_is_measured := C__law_is_measured (P := P) (w := w) (base := base) E
  have C__law_is_put := C__law_is_put (P := P) (w := w) (base := base) E
  have C__law_pick := C__law_pick (P := P) (w := w) (base := base) E
  have C__law_take := C__law_take (P := P) (w := w) (base := base) E
  have C_at_least := C_at_least (P := P) (w := w) (base := base) E
  have C_g_of := C_g_of (P := P) (w := w) (base := base) E
  have C_h_of := C_h_of (P := P) (w := w) (base := base) E
  have C_least_counts := C_least_counts (P := P) (w := w) (base := base) E
  have C_mean_of := C_mean_of (P := P) (w := w) (base := base) E
  have C_middle_of := C_middle_of (P := P) (w := w) (base := base) E
  have C_ranks := C_ranks (P := P) (w := w) (base := base) E
  have C_tail_of := C_tail_of (P := P) (w := w) (base := base) E
  have C_w_of := C_w_of (P := P) (w := w) (base := base) E
  have hN := S_law.nd
  exact fn_all (l := []) S_law rfl (fun i h => by simp [fxOf] at h) fun f cdv A outer s H W hr =>
    db_cons (qset 1 hN (qcall C__law_draws hr (qacons (qv 0) (da_nil)))) (db_cons (qfor (passes_of rfl) rfl fxs_same (qir1 E.z_range (de_int)) (qgn 2 hN) (db_cons (qpar 3 4 rfl hN (qacons (qcallIO C__law_counts hr (qacons (qv 1) (qacons (qcallIO C__law_pick hr (qacons (qv 1) (qacons (de_lst (qacons (de_int) (qacons (de_int) (da_nil)))) (da_nil)))) (da_nil)))) (qacons (qcallIO C__law_counts hr (qacons (qv 1) (qacons (de_int) (da_nil)))) (da_nil)))) (db_cons (qset 5 hN (qty sn_list E.z_list (qacons (qv 3) (da_nil)))) (db_cons (ds_if (PDW.pdt (dw_or (dt_not (qtv (qcall C__law_is_measured hr (qacons (qv 3) (da_nil))))) (dw_or (dt_not (qtv (qcallIO C__law_is_put hr (qacons (qv 1) (qacons (qv 3) (da_nil)))))) (dw_or1 (qtcmp (sd_ne (hu64 hr)) (qv 3) (qv 5)))))) (db_one (ds_ret (de_bl))) (db_nil)) (db_cons (qset 6 hN (de_bin sd_add (qv 3) (qv 4))) (db_cons (ds_if (PDW.pdt (dw_or (dt_not (qtchn (sd_le (hu64 hr)) (sd_le (hu64 hr)) (qblt (sn_max rfl) E.z_max (qacons (qcall C_h_of hr (qacons (qv 3) (da_nil))) (qacons (qcall C_h_of hr (qacons (qv 4) (da_nil))) (da_nil)))) (qcall C_h_of hr (qacons (qv 6) (da_nil))) (de_bin sd_add (qcall C_h_of hr (qacons (qv 3) (da_nil))) (qcall C_h_of hr (qacons (qv 4) (da_nil)))))) (dw_or (qtcmp (sd_lt (hu64 hr)) (qcall C_g_of hr (qacons (qv 6) (da_nil))) (qcall C_g_of hr (qacons (qv 3) (da_nil)))) (dw_or1 (qtcmp (sd_lt (hu64 hr)) (qcall C_w_of hr (qacons (qv 6) (da_nil))) (qcall C_w_of hr (qacons (qv 4) (da_nil)))))))) (db_one (ds_ret (de_bl))) (db_nil)) (db_cons (ds_if (qtcmp (sd_ne (hu64 hr)) (qv 6) (de_lst (da_nil))) (db_cons (qasg (qcall C_mean_of hr (qacons (qv 6) (da_nil))) (dr_tup rfl (qgc (qgn 7 hN) (qgc (qgn 8 hN) (dgs_nil))))) (db_cons (qset 9 hN (qcall C_middle_of hr (qacons (qv 6) (da_nil)))) (db_one (ds_if (PDW.pdt (dw_or (qtcmp (sd_ne (hu64 hr)) (de_bin sd_mul (qv 7) (qblt sn_len E.z_len (qacons (qv 6) (da_nil)))) (de_bin sd_mul (qv 8) (qblt (sn_sum rfl) E.z_sum (qacons (qv 6) (da_nil))))) (dw_or (qtcmp (sd_lt (hu64 hr)) (de_bin sd_mul (de_int) (qcall C_at_least hr (qacons (qv 6) (qacons (qv 9) (da_nil))))) (qblt sn_len E.z_len (qacons (qv 6) (da_nil)))) (dw_or1 (qtcmp (sd_gt (hu64 hr)) (de_bin sd_mul (de_int) (qcall C_at_least hr (qacons (qv 6) (qacons (de_bin sd_add (qv 9) (de_int)) (da_nil))))) (qblt sn_len E.z_len (qacons (qv 6) (da_nil)))))))) (db_one (ds_ret (de_bl))) (db_nil))))) (db_nil)) (db_cons (qset 10 hN (de_bin sd_add (de_lst (qacons (qv 3) (qacons (qv 4) (qacons (qv 6) (qacons (de_rev (qv 3)) (da_nil)))))) (qlc [("k", 15)] rfl hN (qir1 E.z_range (qcallIO C__law_take hr (qacons (qv 1) (qacons (de_int) (da_nil))))) (fun _ _ _ _ _ => qgn 15 hN) (fun _ _ _ _ _ => dts_nil) (fun _ _ _ _ _ => qcallIO C__law_counts hr (qacons (qv 1) (qacons (de_int) (da_nil))))))) (db_cons (qset 11 hN (qcall C_ranks hr (qacons (qv 10) (da_nil)))) (db_cons (qset 12 hN (qlc [("row", 14)] rfl hN (di_any (qv 10)) (fun _ _ _ _ _ => qgn 14 hN) (fun _ _ _ _ _ => dts_nil) (fun _ _ _ _ _ => de_tup (qacons (qcall C_h_of hr (qacons (qv 14) (da_nil))) (qacons (qcall C_g_of hr (qacons (qv 14) (da_nil))) (qacons (qblt (sn_sum rfl) E.z_sum (qacons (qv 14) (da_nil))) (da_nil))))))) (db_cons (ds_if (PDW.pdt (dw_or (qtcmp (sd_ne (hu64 hr)) (qix si_ix (qv 11) (de_int)) (qix si_ix (qv 11) (de_int))) (dw_or1 (qtcmp (sd_ne (hu64 hr)) (qblt (sn_min rfl) E.z_min (qacons (qv 11) (da_nil))) (de_int))))) (db_one (ds_ret (de_bl))) (db_nil)) (db_cons (ds_if (qtcmp (sd_ne (hu64 hr)) (qlc [("k", 15)] rfl hN (qir1 E.z_range (qblt sn_len E.z_len (qacons (qv 10) (da_nil)))) (fun _ _ _ _ _ => qgn 15 hN) (fun _ _ _ _ _ => dts_one (qtcmp (sd_ne (hu64 hr)) (qix si_ix (qv 11) (qv 15)) (de_bin sd_add (de_int) (qblt sn_len E.z_len (qacons (qlc [("one", 16)] rfl hN (di_any (qv 12)) (fun _ _ _ _ _ => qgn 16 hN) (fun _ _ _ _ _ => dts_one (qtcmp (sd_gt (hu64 hr)) (qv 16) (qix si_ix (qv 12) (qv 15)))) (fun _ _ _ _ _ => qv 16)) (da_nil)))))) (fun _ _ _ _ _ => qv 15)) (de_lst (da_nil))) (db_one (ds_ret (de_bl))) (db_nil)) (db_cons (qset 13 hN (qcallIO C__law_take hr (qacons (qv 1) (qacons (de_int) (da_nil))))) (db_one (ds_if (PDW.pdt (dw_or (qtcmp (sd_ne (hu64 hr)) (qcall C_h_of hr (qacons (qcall C_least_counts hr (qacons (qv 13) (da_nil))) (da_nil))) (qv 13)) (dw_or (qtcmp (sd_ne (hu64 hr)) (qblt (sn_sum rfl) E.z_sum (qacons (qcall C_least_counts hr (qacons (qv 13) (da_nil))) (da_nil))) (de_bin sd_mul (qv 13) (qv 13))) (dw_or1 (qtcmp (sd_ne (hu64 hr)) (qcall C_tail_of hr (qacons (qcall C_least_counts hr (qacons (qv 13) (da_nil))) (da_nil))) (de_int)))))) (db_one (ds_ret (de_bl))) (db_nil)))))))))))))))) (db_one (ds_ret (de_bl))))
theorem C_law (E : Env K mg) : CalOk P w K mg base 7 "law" 1 F_law := cal_of E.f_law rfl (B_law E) (fun _ _ _ _ _ _ us hl => match us, hl with | [_], _ => rfl)
end
end L2.DL.W

namespace L2.DL.Q
open L2.DL
/-! ### how many are at least t -/
def cnt (t : Int) (l : List Int) : Nat := (l.filter fun x => decide (t ≤ x)).length
def Desc (l : List Int) : Prop := l.Pairwise (· ≥ ·)
theorem cnt_perm {t : Int} {l m : List Int} (h : l.Perm m) : cnt t l = cnt t m := (h.filter _).length_eq
theorem cnt_le {t : Int} {l : List Int} : cnt t l ≤ l.length := List.length_filter_le _ _
theorem cnt_cons {t x : Int} {l : List Int} : cnt t (x :: l) = (if t ≤ x then 1 else 0) + cnt t l := by
  unfold cnt
  rw [List.filter_cons]
  by_cases h : t ≤ x <;> simp [h]; omega
theorem cnt_app {t : Int} {l m : List Int} : cnt t (l ++ m) = cnt t l + cnt t m := by
  unfold cnt; rw [List.filter_append, List.length_append]
theorem cnt_mono {t u : Int} (h : t ≤ u) : ∀ l : List Int, cnt u l ≤ cnt t l
  | [] => Nat.le_refl _
  | x :: l => by
    rw [cnt_cons, cnt_cons]
    have := cnt_mono h l
    split <;> split <;> omega
theorem cnt_zero {t : Int} {l : List Int} (h : ∀ x ∈ l, x < t) : cnt t l = 0 := by
  unfold cnt
  rw [List.length_eq_zero_iff, List.filter_eq_nil_iff]
  intro x hx; have := h x hx; simp; omega
theorem cnt_all {t : Int} {l : List Int} (h : ∀ x ∈ l, t ≤ x) : cnt t l = l.length := by
  unfold cnt
  rw [List.filter_eq_self.mpr]
  intro x hx; simpa using h x hx
/-- in a falling list the first ones are the greater ones -/
theorem desc_iff {t : Int} : ∀ {l : List Int} {i : Nat} {x : Int}, Desc l → l[i]? = some x → (t ≤ x ↔ i < cnt t l)
  | [], i, x, _, h => by simp at h
  | y :: l, 0, x, d, h => by
    simp at h; subst h
    rw [cnt_cons]
    by_cases e : t ≤ y
    · simp [e]; omega
    · have : cnt t l = 0 := cnt_zero fun z hz => by have := (List.pairwise_cons.mp d).1 z hz; omega
      simp [e, this]
  | y :: l, i + 1, x, d, h => by
    have d' := List.pairwise_cons.mp d
    have hx : x ∈ l := List.mem_of_getElem? (by simpa using h)
    have ih := desc_iff (t := t) d'.2 (show l[i]? = some x by simpa using h)
    rw [cnt_cons]
    by_cases e : t ≤ y
    · simp only [e, if_true]; rw [ih]; omega
    · have h1 : ¬ t ≤ x := by have := d'.1 x hx; omega
      have : cnt t l = 0 := cnt_zero fun z hz => by have := d'.1 z hz; omega
      simp [e, this, h1]
theorem desc_take {t : Int} {l : List Int} {k : Nat} (d : Desc l) (h : k ≤ cnt t l) : ∀ x ∈ l.take k, t ≤ x := by
  intro x hx
  obtain ⟨i, hi, rfl⟩ := List.getElem_of_mem hx
  rw [List.length_take] at hi
  rw [List.getElem_take]
  exact (desc_iff (t := t) d (List.getElem?_eq_getElem (by omega))).mpr (by omega)
theorem desc_drop {t : Int} {l : List Int} (d : Desc l) : ∀ x ∈ l.drop (cnt t l), x < t := by
  intro x hx
  obtain ⟨i, hi, rfl⟩ := List.getElem_of_mem hx
  rw [List.length_drop] at hi
  rw [List.getElem_drop]
  have := desc_iff (t := t) d (List.getElem?_eq_getElem (i := cnt t l + i) (by omega))
  omega
/-! ### places that count, in front -/
def cntI (p : Int → Int → Bool) (k : Int) : List Int → Nat
  | [] => 0
  | x :: r => (if p k x = true then 1 else 0) + cntI p (k + 1) r
theorem cntI_le {p : Int → Int → Bool} : ∀ {l : List Int} {k : Int}, cntI p k l ≤ l.length
  | [], _ => Nat.le_refl _
  | x :: r, k => by
    have := cntI_le (p := p) (l := r) (k := k + 1)
    unfold cntI
    rw [List.length_cons]
    split <;> omega
theorem cntI_iff {p : Int → Int → Bool} (mono : ∀ k x y, y ≤ x → p (k + 1) y = true → p k x = true) : ∀ {l : List Int} {k : Int}, Desc l → ∀ {i : Nat} {x : Int}, l[i]? = some x → (p (k + i) x = true ↔ i < cntI p k l)
  | [], k, d, i, x, h => by simp at h
  | y :: l, k, d, i, x, h => by
    have d' := List.pairwise_cons.mp d
    have ih := fun {i : Nat} {x : Int} => cntI_iff (i := i) (x := x) mono (k := k + 1) d'.2
    have hz : p k y = false → cntI p (k + 1) l = 0 := by
      intro e
      cases l with
      | nil => rfl
      | cons z l =>
        have h1 := ih (i := 0) (x := z) rfl
        cases q : cntI p (k + 1) (z :: l) with
        | zero => rfl
        | succ n =>
          rw [q] at h1
          have h2 := h1.mpr (by omega)
          have h3 := mono k y z (d'.1 z List.mem_cons_self) (by simpa using h2)
          rw [e] at h3; cases h3
    unfold cntI
    cases i with
    | zero =>
      simp at h; subst h
      cases e : p k y with
      | true => simp [e]; omega
      | false => simp [e, hz e]
    | succ i =>
      have h' : l[i]? = some x := by simpa using h
      have h1 := ih h'
      rw [show k + ((i + 1 : Nat) : Int) = k + 1 + i by omega, h1]
      cases e : p k y with
      | true => simp; omega
      | false => simp [hz e]
/-! ### h -/
structure IsH (l : List Int) (H : Nat) : Prop where
  up : H ≤ cnt H l
  dn : cnt (H + 1) l ≤ H
theorem IsH.perm {l m : List Int} {H : Nat} (h : IsH l H) (p : l.Perm m) : IsH m H := ⟨by rw [← cnt_perm p]; exact h.up, by rw [← cnt_perm p]; exact h.dn⟩
theorem IsH.one {l : List Int} {H G : Nat} (h : IsH l H) (g : IsH l G) : H = G := by
  rcases Nat.lt_trichotomy H G with q | q | q
  · have := cnt_mono (t := (H : Int) + 1) (u := (G : Int)) (by omega) l
    have := g.up; have := h.dn; omega
  · exact q
  · have := cnt_mono (t := (G : Int) + 1) (u := (H : Int)) (by omega) l
    have := h.up; have := g.dn; omega
theorem IsH.le {l : List Int} {H : Nat} (h : IsH l H) : H ≤ l.length := Nat.le_trans h.up cnt_le
theorem isH_of {l : List Int} (d : Desc l) : IsH l (cntI (fun k x => decide (k < x)) 0 l) := by
  have mono : ∀ k x y : Int, y ≤ x → decide (k + 1 < y) = true → decide (k < x) = true := fun k x y h e => by simp at *; omega
  have key := fun {i : Nat} {x : Int} => cntI_iff (p := fun k x => decide (k < x)) (i := i) (x := x) mono (k := 0) d
  have hl := cntI_le (p := fun k x => decide (k < x)) (l := l) (k := 0)
  generalize cntI (fun k x => decide (k < x)) 0 l = H at key hl
  refine ⟨?_, ?_⟩
  · cases H with
    | zero => exact Nat.zero_le _
    | succ n =>
      have hn : n < l.length := by omega
      have h1 := (key (List.getElem?_eq_getElem hn)).mpr (by omega)
      have h2 : ((n + 1 : Nat) : Int) ≤ l[n] := by simp at h1; omega
      have := (desc_iff (t := ((n + 1 : Nat) : Int)) d (List.getElem?_eq_getElem hn)).mp h2
      omega
  · by_cases hH : H < l.length
    · have h1 := key (List.getElem?_eq_getElem hH)
      have h2 : ¬ ((H : Int) + 1 ≤ l[H]) := fun z => by
        have := h1.mp (by simp; omega)
        omega
      have := desc_iff (t := (H : Int) + 1) d (List.getElem?_eq_getElem hH)
      omega
    · exact Nat.le_trans cnt_le (by omega)
/-! ### sums of the first ones -/
theorem sum_take_ge {t : Int} : ∀ {l : List Int} {k : Nat}, k ≤ l.length → (∀ x ∈ l.take k, t ≤ x) → t * k ≤ (l.take k).sum
  | _, 0, _, _ => by simp
  | [], k + 1, h, _ => by simp at h
  | x :: l, k + 1, h, hx => by
    have ih := sum_take_ge (t := t) (l := l) (k := k) (by simpa using h) fun y hy => hx y (by simp [hy])
    have h0 : t ≤ x := hx x (by simp)
    rw [List.take_succ_cons, List.sum_cons]
    have : t * ((k + 1 : Nat) : Int) = t * k + t := by rw [Int.natCast_add, Int.mul_add]; simp
    omega
theorem perm_sum {l m : List Int} (h : l.Perm m) : l.sum = m.sum := by
  induction h with
  | nil => rfl
  | cons x _ ih => rw [List.sum_cons, List.sum_cons, ih]
  | swap x y l => simp only [List.sum_cons]; omega
  | trans _ _ a b => rw [a, b]
/-- the falling list of l -/
def fal (l : List Int) : List Int := (srt l).reverse
theorem fal_desc (l : List Int) : Desc (fal l) := by
  unfold Desc fal
  rw [List.pairwise_reverse]
  exact srt_sorted l
theorem fal_perm (l : List Int) : (fal l).Perm l := (List.reverse_perm _).trans (srt_perm l)
theorem fal_len (l : List Int) : (fal l).length = l.length := (fal_perm l).length_eq
theorem desc_eq : ∀ {l m : List Int}, Desc l → Desc m → l.Perm m → l = m
  | [], m, _, _, h => (List.nil_perm.mp h).symm
  | x :: l, [], _, _, h => by have := h.length_eq; simp at this
  | x :: l, y :: m, d, e, h => by
    have d' := List.pairwise_cons.mp d
    have e' := List.pairwise_cons.mp e
    have h1 : x ∈ y :: m := h.subset List.mem_cons_self
    have h2 : y ∈ x :: l := h.symm.subset List.mem_cons_self
    have exy : x = y := by
      rcases List.mem_cons.mp h1 with q | q
      · exact q
      · rcases List.mem_cons.mp h2 with r | r
        · exact r.symm
        · have := e'.1 x q; have := d'.1 y r; omega
    subst exy
    rw [desc_eq d'.2 e'.2 (List.Perm.cons_inv h)]
theorem fal_eq {l m : List Int} (h : l.Perm m) : fal l = fal m := desc_eq (fal_desc l) (fal_desc m) ((fal_perm l).trans (h.trans (fal_perm m).symm))
end L2.DL.Q

namespace L2.DL.Q
open L2.DL
/-! ### the first ones are the best choice -/
theorem take_anti {f : Int → Int} (anti : ∀ x y, y ≤ x → f x ≤ f y) : ∀ {l : List Int} {x : Int} {k : Nat}, Desc (x :: l) → k ≤ l.length → (((x :: l).take k).map f).sum ≤ ((l.take k).map f).sum
  | l, x, 0, _, _ => by simp
  | [], x, k + 1, _, h => by simp at h
  | y :: l, x, k + 1, d, h => by
    have d' := List.pairwise_cons.mp d
    have ih := take_anti anti (l := l) (x := y) (k := k) d'.2 (by simpa using h)
    have h1 : f x ≤ f y := anti x y (d'.1 y List.mem_cons_self)
    simp only [List.take_succ_cons, List.map_cons, List.sum_cons] at ih ⊢
    omega
/-- s is a choice out of l -/
def Subp {α : Type} (s l : List α) : Prop := ∃ r, (s ++ r).Perm l
theorem Subp.perm {α : Type} {s l m : List α} (h : Subp s l) (p : l.Perm m) : Subp s m := let ⟨r, q⟩ := h; ⟨r, q.trans p⟩
theorem Subp.map {α β : Type} (f : α → β) {s l : List α} (h : Subp s l) : Subp (s.map f) (l.map f) := let ⟨r, q⟩ := h; ⟨r.map f, by rw [← List.map_append]; exact q.map f⟩
theorem Subp.app {α : Type} {s l : List α} (h : Subp s l) (m : List α) : Subp s (l ++ m) := let ⟨r, q⟩ := h; ⟨r ++ m, by rw [← List.append_assoc]; exact q.append_right m⟩
theorem take_sub {α : Type} (k : Nat) (l : List α) : Subp (l.take k) l := ⟨l.drop k, by rw [List.take_append_drop]⟩
theorem topmin {f : Int → Int} (anti : ∀ x y, y ≤ x → f x ≤ f y) : ∀ {l s r : List Int}, Desc l → (s ++ r).Perm l → ((l.take s.length).map f).sum ≤ (s.map f).sum
  | [], s, r, _, h => by
    have := h.length_eq
    simp at this
    obtain ⟨rfl, rfl⟩ := this
    simp
  | x :: l, s, r, d, h => by
    have d' := List.pairwise_cons.mp d
    have hx : x ∈ s ++ r := h.symm.subset List.mem_cons_self
    rcases List.mem_append.mp hx with q | q
    · have e := List.perm_cons_erase q
      have h2 : ((s.erase x) ++ r).Perm l := List.Perm.cons_inv ((e.symm.append_right r).trans h)
      have ih := topmin anti d'.2 h2
      have e2 := perm_sum (e.map f)
      rw [e2, e.length_eq]
      simp only [List.length_cons, List.take_succ_cons, List.map_cons, List.sum_cons]
      omega
    · have e := List.perm_cons_erase q
      have h2 : (s ++ r.erase x).Perm l := List.Perm.cons_inv ((List.perm_middle.symm.trans (e.symm.append_left s)).trans h)
      have ih := topmin anti d'.2 h2
      have hl := h2.length_eq
      rw [List.length_append] at hl
      exact Int.le_trans (take_anti anti d (by omega)) ih
theorem topmin_perm {f : Int → Int} (anti : ∀ x y, y ≤ x → f x ≤ f y) {s l : List Int} (h : Subp s l) : (((fal l).take s.length).map f).sum ≤ (s.map f).sum := by
  obtain ⟨r, q⟩ := h
  exact topmin anti (fal_desc l) (q.trans (fal_perm l).symm)
theorem sum_neg : ∀ l : List Int, (l.map fun x => -x).sum = - l.sum
  | [] => rfl
  | x :: l => by rw [List.map_cons, List.sum_cons, List.sum_cons, sum_neg l]; omega
theorem topsum {s l : List Int} (h : Subp s l) : s.sum ≤ ((fal l).take s.length).sum := by
  have := topmin_perm (f := fun x => -x) (fun x y h => by show -x ≤ -y; omega) h
  rw [sum_neg, sum_neg] at this
  omega
/-! ### pairs, one beside the other -/
def ordF (a b : Int × Int) : Bool := decide (b.1 ≤ a.1)
theorem ordF_total : PySem.W.TotalLe ordF := ⟨fun a b c h1 h2 => by simp [ordF] at *; omega, fun a b => by simp [ordF]; omega⟩
theorem pairs_fst (P : List (Int × Int)) : ∃ P' : List (Int × Int), P'.Perm P ∧ P'.map Prod.fst = fal (P.map Prod.fst) := by
  refine ⟨isort ordF P, isort_perm P, desc_eq ?_ (fal_desc _) (((isort_perm P).map _).trans (fal_perm _).symm)⟩
  unfold Desc
  rw [List.pairwise_map]
  exact (isort_pw ordF_total P).imp fun h => by simpa [ordF] using h
theorem pairs_snd (P : List (Int × Int)) : ∃ P' : List (Int × Int), P'.Perm P ∧ P'.map Prod.snd = fal (P.map Prod.snd) := by
  obtain ⟨P', h1, h2⟩ := pairs_fst (P.map fun p => (p.2, p.1))
  refine ⟨P'.map fun p => (p.2, p.1), ?_, ?_⟩
  · have := h1.map fun p : Int × Int => (p.2, p.1)
    simpa [Function.comp_def] using this
  · rw [List.map_map] at h2 ⊢
    exact h2
/-- o is c with something put upon it -/
def Upon (c o : List Int) : Prop := ∃ P : List (Int × Int), P.map Prod.fst = c ∧ P.map Prod.snd = o ∧ ∀ p ∈ P, p.1 ≤ p.2
theorem Upon.refl (c : List Int) : Upon c c := ⟨c.map fun x => (x, x), by simp [Function.comp_def], by simp [Function.comp_def], fun p hp => by
  obtain ⟨x, _, rfl⟩ := List.mem_map.mp hp; exact Int.le_refl _⟩
theorem Upon.len {c o : List Int} (h : Upon c o) : c.length = o.length := by
  obtain ⟨P, rfl, rfl, _⟩ := h; simp
theorem Upon.set {c o : List Int} {i : Nat} {x y : Int} (h : Upon c o) (e : o[i]? = some x) (hxy : x ≤ y) : Upon c (o.set i y) := by
  obtain ⟨P, rfl, rfl, hp⟩ := h
  rw [List.getElem?_map] at e
  cases q : P[i]? with
  | none => rw [q] at e; cases e
  | some p =>
    rw [q] at e; cases e
    obtain ⟨hi, hq⟩ := List.getElem?_eq_some_iff.mp q
    refine ⟨P.set i (p.1, y), ?_, ?_, fun z hz => ?_⟩
    · apply List.ext_getElem?
      intro j
      rw [List.getElem?_map, List.getElem?_map]
      by_cases hij : i = j
      · subst hij; rw [List.getElem?_set_self hi, q]; rfl
      · rw [List.getElem?_set_ne hij]
    · apply List.ext_getElem?
      intro j
      rw [List.getElem?_map]
      by_cases hij : i = j
      · subst hij; rw [List.getElem?_set_self hi, List.getElem?_set_self (by simpa using hi)]; rfl
      · rw [List.getElem?_set_ne hij, List.getElem?_set_ne hij, List.getElem?_map]
    · rcases List.mem_or_eq_of_mem_set hz with hz | hz
      · exact hp z hz
      · subst hz
        have h1 : p ∈ P := List.mem_of_getElem? q
        have := hp p h1
        show p.1 ≤ y
        have hxy : p.2 ≤ y := hxy
        omega
theorem Upon.cnt {c o : List Int} (h : Upon c o) (t : Int) : cnt t c ≤ cnt t o := by
  obtain ⟨P, rfl, rfl, hp⟩ := h
  induction P with
  | nil => exact Nat.le_refl _
  | cons p P ih =>
    have := ih fun q hq => hp q (List.mem_cons_of_mem _ hq)
    have h1 := hp p List.mem_cons_self
    rw [List.map_cons, List.map_cons, cnt_cons, cnt_cons]
    split <;> split <;> omega
theorem sum_le_map {P : List (Int × Int)} (hp : ∀ p ∈ P, p.1 ≤ p.2) : (P.map Prod.fst).sum ≤ (P.map Prod.snd).sum := by
  induction P with
  | nil => exact Int.le_refl _
  | cons p P ih =>
    have := ih fun q hq => hp q (List.mem_cons_of_mem _ hq)
    have h1 := hp p List.mem_cons_self
    simp only [List.map_cons, List.sum_cons]; omega
theorem Upon.tops {c o : List Int} (h : Upon c o) (k : Nat) : ((fal c).take k).sum ≤ ((fal o).take k).sum := by
  obtain ⟨P, rfl, rfl, hp⟩ := h
  obtain ⟨P', h1, h2⟩ := pairs_fst P
  have hp' : ∀ p ∈ P', p.1 ≤ p.2 := fun p q => hp p (h1.subset q)
  rw [← h2, ← List.map_take]
  refine Int.le_trans (sum_le_map fun p q => hp' p (List.mem_of_mem_take q)) ?_
  have e : Subp ((P'.take k).map Prod.snd) (P.map Prod.snd) := ((take_sub k P').perm h1).map _
  have := topsum e
  rw [List.length_map, List.length_take] at this
  by_cases hk : k ≤ P'.length
  · rwa [Nat.min_eq_left hk] at this
  · have hl : (fal (P.map Prod.snd)).length = P'.length := by rw [fal_len, List.length_map, h1.length_eq]
    rw [Nat.min_eq_right (by omega), List.take_of_length_le (Nat.le_of_eq hl)] at this
    rw [List.take_of_length_le (show (fal (P.map Prod.snd)).length ≤ k by omega)]
    exact this
/-! ### g -/
structure IsG (l : List Int) (G : Nat) : Prop where
  le : G ≤ l.length
  up : (G : Int) * G ≤ (l.take G).sum
  dn : ∀ m : Nat, G < m → m ≤ l.length → (l.take m).sum < (m : Int) * m
theorem IsG.mono {l m : List Int} {G F : Nat} (h : IsG l G) (g : IsG m F) (hl : l.length ≤ m.length) (hs : ∀ k, k ≤ l.length → (l.take k).sum ≤ (m.take k).sum) : G ≤ F := by
  apply Nat.le_of_not_lt
  intro q
  have h1 := g.dn G q (Nat.le_trans h.le hl)
  have h2 := h.up
  have h3 := hs G h.le
  omega
theorem IsG.ge {l : List Int} {G H : Nat} (d : Desc l) (g : IsG l G) (h : IsH l H) : H ≤ G := by
  apply Nat.le_of_not_lt
  intro q
  have h1 := g.dn H q h.le
  have h2 := sum_take_ge (t := (H : Int)) (l := l) (k := H) h.le (desc_take d h.up)
  omega
/-! ### w -/
structure IsW (l : List Int) (W : Nat) : Prop where
  up : W ≤ cnt (10 * W) l
  dn : cnt (10 * (W + 1)) l ≤ W
theorem isW_of {l : List Int} (d : Desc l) : IsW l (cntI (fun k x => decide (10 * (k + 1) ≤ x)) 0 l) := by
  have mono : ∀ k x y : Int, y ≤ x → decide (10 * (k + 1 + 1) ≤ y) = true → decide (10 * (k + 1) ≤ x) = true := fun k x y h e => by simp at *; omega
  have key := fun {i : Nat} {x : Int} => cntI_iff (p := fun k x => decide (10 * (k + 1) ≤ x)) (i := i) (x := x) mono (k := 0) d
  have hl := cntI_le (p := fun k x => decide (10 * (k + 1) ≤ x)) (l := l) (k := 0)
  generalize cntI (fun k x => decide (10 * (k + 1) ≤ x)) 0 l = H at key hl
  refine ⟨?_, ?_⟩
  · cases H with
    | zero => exact Nat.zero_le _
    | succ n =>
      have hn : n < l.length := by omega
      have h1 := (key (List.getElem?_eq_getElem hn)).mpr (by omega)
      have h2 : 10 * ((n + 1 : Nat) : Int) ≤ l[n] := by simp at h1; omega
      have := (desc_iff (t := 10 * ((n + 1 : Nat) : Int)) d (List.getElem?_eq_getElem hn)).mp h2
      omega
  · by_cases hH : H < l.length
    · have h1 := key (List.getElem?_eq_getElem hH)
      have h2 : ¬ (10 * ((H : Int) + 1) ≤ l[H]) := fun z => by
        have := h1.mp (by simp; omega)
        omega
      have := desc_iff (t := 10 * ((H : Int) + 1)) d (List.getElem?_eq_getElem hH)
      omega
    · exact Nat.le_trans cnt_le (by omega)
theorem IsW.le {l : List Int} {H : Nat} (h : IsW l H) : H ≤ l.length := Nat.le_trans h.up cnt_le
theorem IsW.mono {l m : List Int} {H G : Nat} (h : IsW l H) (g : IsW m G) (hc : ∀ t, cnt t l ≤ cnt t m) : H ≤ G := by
  apply Nat.le_of_not_lt
  intro q
  have h1 := cnt_mono (t := 10 * ((G : Int) + 1)) (u := 10 * (H : Int)) (by omega) m
  have := h.up; have := g.dn; have := hc (10 * (H : Int)); omega
theorem IsW.perm {l m : List Int} {H : Nat} (h : IsW l H) (p : l.Perm m) : IsW m H := ⟨by rw [← cnt_perm p]; exact h.up, by rw [← cnt_perm p]; exact h.dn⟩
theorem IsH.mono {l m : List Int} {H G : Nat} (h : IsH l H) (g : IsH m G) (hc : ∀ t, cnt t l ≤ cnt t m) : H ≤ G := by
  apply Nat.le_of_not_lt
  intro q
  have h1 := cnt_mono (t := (G : Int) + 1) (u := (H : Int)) (by omega) m
  have := h.up; have := g.dn; have := hc (H : Int); omega
/-! ### what lacks -/
def gap (h x : Int) : Int := if h - x > 0 then h - x else 0
theorem gap_nn {h x : Int} : 0 ≤ gap h x := by unfold gap; split <;> omega
theorem gap_anti {h x y : Int} (q : y ≤ x) : gap h x ≤ gap h y := by unfold gap; split <;> split <;> omega
theorem gap_mono {h k x : Int} (q : h ≤ k) : gap h x ≤ gap k x := by unfold gap; split <;> split <;> omega
def lack (l : List Int) (h : Nat) : Int := (((fal l).take h).map (gap h)).sum
theorem sum_nn {l : List Int} (h : ∀ x ∈ l, 0 ≤ x) : 0 ≤ l.sum := by
  induction l with
  | nil => exact Int.le_refl _
  | cons x l ih =>
    have := ih fun y hy => h y (List.mem_cons_of_mem _ hy)
    have := h x List.mem_cons_self
    rw [List.sum_cons]; omega
theorem lack_nn {l : List Int} {h : Nat} : 0 ≤ lack l h := sum_nn fun x hx => by
  obtain ⟨y, _, rfl⟩ := List.mem_map.mp hx; exact gap_nn
theorem sum_map_le {f g : Int → Int} : ∀ {l : List Int}, (∀ x ∈ l, f x ≤ g x) → (l.map f).sum ≤ (l.map g).sum
  | [], _ => Int.le_refl _
  | x :: l, h => by
    have := sum_map_le (l := l) fun y hy => h y (List.mem_cons_of_mem _ hy)
    have := h x List.mem_cons_self
    simp only [List.map_cons, List.sum_cons]; omega
theorem lack_mono {l : List Int} {h k : Nat} (q : h ≤ k) : lack l h ≤ lack l k := by
  unfold lack
  refine Int.le_trans (sum_map_le (g := gap k) fun x _ => gap_mono (by omega)) ?_
  have e : ((fal l).take k) = ((fal l).take h) ++ ((fal l).drop h).take (k - h) := by
    rw [← List.take_append_drop h ((fal l).take k), List.take_take, List.drop_take, Nat.min_eq_left q]
  rw [e, List.map_append, List.sum_append]
  have : 0 ≤ ((((fal l).drop h).take (k - h)).map (gap k)).sum := sum_nn fun x hx => by
    obtain ⟨y, _, rfl⟩ := List.mem_map.mp hx; exact gap_nn
  omega
theorem lack_zero {l : List Int} {H : Nat} (h : IsH l H) : lack l H = 0 := by
  unfold lack
  have e : ∀ x ∈ (fal l).take H, gap H x = 0 := fun x hx => by
    have := desc_take (fal_desc l) (h.perm (fal_perm l).symm).up x hx
    unfold gap; rw [if_neg (by omega)]
  generalize (fal l).take H = m at e
  induction m with
  | nil => rfl
  | cons x m ih =>
    rw [List.map_cons, List.sum_cons, e x List.mem_cons_self, ih fun y hy => e y (List.mem_cons_of_mem _ hy)]
    rfl
structure IsM (l : List Int) (H : Nat) (more : Int) (M : Nat) : Prop where
  ge : H ≤ M
  le : M ≤ l.length
  fit : lack l M ≤ more
  top : M = l.length ∨ more < lack l (M + 1)
theorem IsM.upon {c o : List Int} {H M G : Nat} {more : Int} (m : IsM c H more M) (u : Upon c o) (hs : o.sum - c.sum ≤ more) (g : IsH o G) : G ≤ M := by
  apply Nat.le_of_not_lt
  intro q
  have hl := g.le
  rw [← u.len] at hl
  have h1 : more < lack c (M + 1) := m.top.resolve_left (by omega)
  have h2 : lack c (M + 1) ≤ lack c G := lack_mono (by omega)
  obtain ⟨P, rfl, rfl, hp⟩ := u
  obtain ⟨P', e1, e2⟩ := pairs_snd P
  have hp' : ∀ p ∈ P', p.1 ≤ p.2 := fun p z => hp p (e1.subset z)
  have hlen : P'.length = P.length := e1.length_eq
  have sub : Subp ((P'.take G).map Prod.fst) (P.map Prod.fst) := ((take_sub G P').perm e1).map _
  have h3 := topmin_perm (f := gap G) (fun x y h => gap_anti h) sub
  have hG : ((P'.take G).map Prod.fst).length = G := by
    rw [List.length_map, List.length_take]
    simp at hl
    omega
  rw [hG] at h3
  have h3 : lack (P.map Prod.fst) G ≤ (((P'.take G).map Prod.fst).map (gap G)).sum := h3
  have big : ∀ p ∈ P'.take G, (G : Int) ≤ p.2 := fun p z => by
    refine desc_take (fal_desc _) (g.perm (fal_perm _).symm).up p.2 ?_
    rw [← e2, ← List.map_take]
    exact List.mem_map_of_mem z
  have h4 : ∀ (Q : List (Int × Int)), (∀ p ∈ Q, (G : Int) ≤ p.2 ∧ p.1 ≤ p.2) → ((Q.map Prod.fst).map (gap G)).sum ≤ (Q.map Prod.snd).sum - (Q.map Prod.fst).sum := by
    intro Q
    induction Q with
    | nil => intro _; simp
    | cons p Q ih =>
      intro h
      have a := ih fun z hz => h z (List.mem_cons_of_mem _ hz)
      have b := h p List.mem_cons_self
      simp only [List.map_cons, List.sum_cons]
      have : gap G p.1 ≤ p.2 - p.1 := by unfold gap; split <;> omega
      omega
  have h5 := h4 (P'.take G) fun p z => ⟨big p z, hp' p (List.mem_of_mem_take z)⟩
  have h6 : ((P'.take G).map Prod.snd).sum - ((P'.take G).map Prod.fst).sum ≤ (P.map Prod.snd).sum - (P.map Prod.fst).sum := by
    rw [← perm_sum (e1.map Prod.snd), ← perm_sum (e1.map Prod.fst)]
    have k1 : P'.map Prod.snd = (P'.take G).map Prod.snd ++ (P'.drop G).map Prod.snd := by rw [← List.map_append, List.take_append_drop]
    have k2 : P'.map Prod.fst = (P'.take G).map Prod.fst ++ (P'.drop G).map Prod.fst := by rw [← List.map_append, List.take_append_drop]
    have := sum_le_map (P := P'.drop G) fun p z => hp' p (List.mem_of_mem_drop z)
    rw [k1, k2, List.sum_append, List.sum_append]
    omega
  omega
/-! ### the best putting -/
def best (l : List Int) (M : Nat) : List Int := ((fal l).take M).map (fun x => if (M : Int) > x then (M : Int) else x) ++ (fal l).drop M
theorem best_h {l : List Int} {H M : Nat} {more : Int} (h : IsH l H) (m : IsM l H more M) : IsH (best l M) M := by
  have hl : ((fal l).take M).length = M := by rw [List.length_take, fal_len]; have := m.le; omega
  refine ⟨?_, ?_⟩
  · unfold best
    rw [cnt_app, cnt_all]
    · rw [List.length_map, hl]; omega
    · intro x hx
      obtain ⟨y, _, rfl⟩ := List.mem_map.mp hx
      show (M : Int) ≤ if (M : Int) > y then (M : Int) else y
      split <;> omega
  · have e : cnt ((M : Int) + 1) (best l M) = cnt ((M : Int) + 1) l := by
      unfold best
      rw [cnt_app, ← cnt_perm (fal_perm l)]
      have e2 : cnt ((M : Int) + 1) (fal l) = cnt ((M : Int) + 1) ((fal l).take M) + cnt ((M : Int) + 1) ((fal l).drop M) := by rw [← cnt_app, List.take_append_drop]
      rw [e2]
      congr 1
      generalize (fal l).take M = s
      induction s with
      | nil => rfl
      | cons x s ih =>
        rw [List.map_cons, cnt_cons, cnt_cons, ih]
        congr 1
        by_cases q : (M : Int) > x
        · rw [if_pos q, if_neg (by omega), if_neg (by omega)]
        · rw [if_neg q]
    rw [e]
    have := cnt_mono (t := (H : Int) + 1) (u := (M : Int) + 1) (by have := m.ge; omega) l
    have := h.dn; have := m.ge; omega
theorem best_sum {l : List Int} {M : Nat} : (best l M).sum - l.sum = lack l M := by
  unfold best lack
  rw [List.sum_append, ← perm_sum (fal_perm l)]
  have e2 : (fal l).sum = ((fal l).take M).sum + ((fal l).drop M).sum := by rw [← List.sum_append, List.take_append_drop]
  rw [e2]
  have k : ∀ s : List Int, (s.map fun x => if (M : Int) > x then (M : Int) else x).sum - s.sum = (s.map (gap M)).sum := by
    intro s
    induction s with
    | nil => rfl
    | cons x s ih =>
      simp only [List.map_cons, List.sum_cons]
      have : (if (M : Int) > x then (M : Int) else x) - x = gap M x := by unfold gap; split <;> split <;> omega
      omega
  have := k ((fal l).take M)
  omega
/-! ### two lists together -/
theorem isH_two {a b : List Int} {A B C : Nat} (ha : IsH a A) (hb : IsH b B) (hc : IsH (a ++ b) C) : A ≤ C ∧ B ≤ C ∧ C ≤ A + B := by
  refine ⟨ha.mono hc fun t => by rw [cnt_app]; omega, hb.mono hc fun t => by rw [cnt_app]; omega, ?_⟩
  apply Nat.le_of_not_lt
  intro q
  have h1 := cnt_mono (t := (A : Int) + 1) (u := (C : Int)) (by omega) a
  have h2 := cnt_mono (t := (B : Int) + 1) (u := (C : Int)) (by omega) b
  have h3 := hc.up
  rw [cnt_app] at h3
  have := ha.dn; have := hb.dn; omega
theorem tops_app {a b : List Int} {k : Nat} (hk : k ≤ a.length) : ((fal a).take k).sum ≤ ((fal (a ++ b)).take k).sum := by
  have e : Subp ((fal a).take k) (a ++ b) := ((take_sub k _).perm (fal_perm a)).app b
  have := topsum e
  rwa [List.length_take, fal_len, Nat.min_eq_left hk] at this
/-! ### the middle -/
theorem middle {l : List Int} {x : Int} (h : l ≠ []) (e : (srt l)[(l.length - 1) / 2]? = some x) : l.length ≤ 2 * cnt x l ∧ 2 * cnt (x + 1) l ≤ l.length := by
  have hn : 0 < l.length := List.length_pos_iff.mpr h
  have hs := srt_len l
  have e2 : (fal l)[l.length - 1 - (l.length - 1) / 2]? = some x := by
    unfold fal
    rw [List.getElem?_reverse (by omega), hs, ← e]
    congr 1
    omega
  have h1 := (desc_iff (t := x) (fal_desc l) e2).mp (Int.le_refl _)
  have h2 := desc_iff (t := x + 1) (fal_desc l) e2
  rw [cnt_perm (fal_perm l)] at h1 h2
  omega
end L2.DL.Q

namespace L2.DL.W
open PySem PySem.Spec PyProof.Rows L2 L2.DL L2.DL.Q

/-! ### comprehensions over numbers -/
theorem fm_ints {f : D → Option D} {p : Int → Bool} {g : Int → D} : ∀ {ns : List Int}, (∀ n ∈ ns, f (.int n) = if p n = true then some (g n) else none) → (ns.map D.int).filterMap f = (ns.filter p).map g
  | [], _ => rfl
  | n :: ns, h => by
    have ih := fm_ints (ns := ns) fun m hm => h m (List.mem_cons_of_mem _ hm)
    rw [List.map_cons, List.filterMap_cons, h n List.mem_cons_self, List.filter_cons, ih]
    cases p n <;> simp
theorem sLc_ints {it : Sm Src} {src : Option (Nat × D)} {tg : Gd} {tt : Sm Bool} {te : Sm Rv} {vs : List Nat} {ρ ρ1 : DEnv} {ns : List Int} (p : Int → Bool) (g : Int → D) (hi : it ρ = .ok (ns.map D.int, src) ρ1) (hs : srcChk vs (wipeE ρ1 vs) src = true)
    (h : ∀ n ∈ ns, cstep tg tt te vs (.int n) (wipeE ρ1 vs) = .ok (if p n = true then some (g n) else none) (wipeE ρ1 vs)) (hl : ns.length ≤ 16777216) : sLc it tg tt te vs ρ = .ok (.f (.lst ((ns.filter p).map g))) ρ1 := by
  have q := sLc_pure (te := te) (tt := tt) (tg := tg) (fun d => match d with | .int n => if p n = true then some (g n) else none | _ => none) hi hs (fun d hd => by
    obtain ⟨n, hn, rfl⟩ := List.mem_map.mp hd
    exact h n hn) (by simpa using hl)
  rw [q, fm_ints (p := p) (g := g) fun n _ => rfl]
def enumI (p : Int → Int → Bool) (g : Int → Int → D) (k : Int) : List Int → List D
  | [] => []
  | x :: r => (if p k x = true then [g k x] else []) ++ enumI p g (k + 1) r
theorem enumI_len {p : Int → Int → Bool} {g : Int → Int → D} : ∀ {ns : List Int} {k : Int}, (enumI p g k ns).length = cntI p k ns
  | [], _ => rfl
  | x :: r, k => by
    unfold enumI cntI
    rw [List.length_append, enumI_len]
    split <;> simp
theorem enumD_mem {d : D} : ∀ {ns : List Int} {k : Nat}, d ∈ enumD k (ns.map D.int) → ∃ (i : Int) (x : Int), x ∈ ns ∧ d = .tup [.int i, .int x]
  | [], _, h => by simp [enumD] at h
  | x :: r, k, h => by
    rcases List.mem_cons.mp h with q | q
    · exact ⟨_, x, List.mem_cons_self, q⟩
    · obtain ⟨i, y, h1, h2⟩ := enumD_mem q
      exact ⟨i, y, List.mem_cons_of_mem _ h1, h2⟩
theorem fm_enum {f : D → Option D} {p : Int → Int → Bool} {g : Int → Int → D} (h : ∀ k x, f (.tup [.int k, .int x]) = if p k x = true then some (g k x) else none) : ∀ {ns : List Int} {k : Nat}, (enumD k (ns.map D.int)).filterMap f = enumI p g k ns
  | [], _ => rfl
  | x :: r, k => by
    show ((D.tup [.int (k : Nat), .int x]) :: enumD (k + 1) (r.map D.int)).filterMap f = _
    rw [List.filterMap_cons, h, fm_enum h]
    show _ = (if p k x = true then [g k x] else []) ++ enumI p g ((k : Int) + 1) r
    rw [show ((k + 1 : Nat) : Int) = (k : Int) + 1 by omega]
    by_cases q : p k x = true <;> simp [q]
theorem sLc_enum {it : Sm Src} {src : Option (Nat × D)} {tg : Gd} {tt : Sm Bool} {te : Sm Rv} {vs : List Nat} {ρ ρ1 : DEnv} {ns : List Int} (p : Int → Int → Bool) (g : Int → Int → D) (hi : it ρ = .ok (enumD 0 (ns.map D.int), src) ρ1) (hs : srcChk vs (wipeE ρ1 vs) src = true)
    (h : ∀ k, ∀ x ∈ ns, cstep tg tt te vs (.tup [.int k, .int x]) (wipeE ρ1 vs) = .ok (if p k x = true then some (g k x) else none) (wipeE ρ1 vs)) (hl : ns.length ≤ 16777216) : sLc it tg tt te vs ρ = .ok (.f (.lst (enumI p g 0 ns))) ρ1 := by
  have q := sLc_pure (te := te) (tt := tt) (tg := tg) (fun d => match d with | .tup [.int k, .int x] => if p k x = true then some (g k x) else none | _ => none) hi hs (fun d hd => by
    obtain ⟨i, x, hx, rfl⟩ := enumD_mem hd
    exact h i x hx) (by rw [enumD_len]; simpa using hl)
  rw [q, fm_enum (p := p) (g := g) fun n _ => rfl]
  rfl

/-! ### small ones -/
structure Cts (cs : List Int) : Prop where
  len : cs.length ≤ 500
  nn : ∀ c ∈ cs, 0 ≤ c
  hi : ∀ c ∈ cs, c ≤ 1000000
abbrev C (cs : List Int) : Cell := .val (.lst (cs.map D.int))
theorem v_is_integer (i : Int) : F_is_integer [.val (.int i)] = .ok (.v (.bl true)) [.no] := by
  simp [F_is_integer, g_is_integer, sFun, sSeq, sRet, sRetN, sAnd, sOr, sNot, sIf, sIsi, sVar, sLit, sBin, sUn, ap2, ap1, apC, sOfT, tOfS, tCmp', tChn, tAnd', tOr', tNot', sCall, callV, sCallIO, callIO, aCons, aNil, frzs, frz, derefs, deref, sBlt, sDrop, sAsg, sAsgs, unl, unls, rN, rGo, sIfS, sNx, bnd, finE, tyName, isiN, cd_T, cd_F, cd_if, small, rngOk, mulOk, same_refl]
theorem v_is_within {i lo hi : Int} (h1 : lo ≤ i) (h2 : i ≤ hi) : F_is_within [.val (.int i), .val (.int lo), .val (.int hi)] = .ok (.v (.bl true)) [.no, .no, .no] := by
  simp [F_is_within, g_is_within, sFun, sSeq, sRet, sRetN, sAnd, sOr, sNot, sIf, sIsi, sVar, sLit, sBin, sUn, ap2, ap1, apC, sOfT, tOfS, tCmp', tChn, tAnd', tOr', tNot', sCall, callV, sCallIO, callIO, aCons, aNil, frzs, frz, derefs, deref, sBlt, sDrop, sAsg, sAsgs, unl, unls, rN, rGo, sIfS, sNx, bnd, finE, tyName, isiN, cd_T, cd_F, cd_if, small, rngOk, mulOk, same_refl, v_is_integer, dLe, h1, h2]
theorem v_check : F_check [.val (.bl true)] = .ok (.v .non) [.no] := by
  simp [F_check, g_check, sFun, sSeq, sRet, sRetN, sAnd, sOr, sNot, sIf, sIsi, sVar, sLit, sBin, sUn, ap2, ap1, apC, sOfT, tOfS, tCmp', tChn, tAnd', tOr', tNot', sCall, callV, sCallIO, callIO, aCons, aNil, frzs, frz, derefs, deref, sBlt, sDrop, sAsg, sAsgs, unl, unls, rN, rGo, sIfS, sNx, bnd, finE, tyName, isiN, cd_T, cd_F, cd_if, small, rngOk, mulOk, same_refl]
theorem lc_within {cs : List Int} (h : Cts cs) {ρ ρ1 : DEnv} {it : Sm Src} {src : Option (Nat × D)} {v : Nat} (hi : it ρ = .ok (cs.map D.int, src) ρ1) (hs : srcChk [v] (wipeE ρ1 [v]) src = true) (hv : v < ρ1.length) :
    sLc it (gN v) tYesD (sCall 3 F_is_within (aCons (sVar v) (aCons (sLit (.int 0)) (aCons (sLit (.int 1000000)) aNil)))) [v] ρ = .ok (.f (.lst (cs.map fun _ => .bl true))) ρ1 := by
  rw [sLc_ints (fun _ => true) (fun _ => .bl true) hi hs (fun n hn => ?_) (by have := h.len; omega)]
  · rw [List.filter_eq_self.mpr fun _ _ => rfl]
  · have h1 := h.nn n hn
    have h2 := h.hi n hn
    have e : (List.set (List.set ρ1 v .no) v (.val (.int n)))[v]? = some (.val (.int n)) := by
      rw [List.getElem?_set_self (by simpa using hv)]
    simp [cstep, gN, nox, tYesD, wipeE, sFun, sSeq, sRet, sRetN, sAnd, sOr, sNot, sIf, sIsi, sVar, sLit, sBin, sUn, ap2, ap1, apC, sOfT, tOfS, tCmp', tChn, tAnd', tOr', tNot', sCall, callV, sCallIO, callIO, aCons, aNil, frzs, frz, derefs, deref, sBlt, sDrop, sAsg, sAsgs, unl, unls, rN, rGo, sIfS, sNx, bnd, finE, tyName, isiN, cd_T, cd_F, cd_if, small, rngOk, mulOk, same_refl, v_is_within h1 h2, e, hv]
theorem all_true {cs : List Int} : dAll [.lst (cs.map fun _ => D.bl true)] = some (.v (.bl true)) := by
  have e : (cs.map fun _ => D.bl true) = (cs.map fun _ => true).map D.bl := by simp
  have q := blsOf_map (cs.map fun _ => true)
  rw [← e] at q
  show (match blsOf (cs.map fun _ => D.bl true) with | some bs => some (Rv.v (D.bl (bs.all id))) | none => none) = _
  rw [q]
  simp
theorem v_are_counts {cs : List Int} (h : Cts cs) : F_are_counts [C cs] = .ok (.v (.bl true)) [.no] := by
  have h1 := h.len
  have e := lc_within (it := iAny (sVar 0)) (src := none) (ρ := [C cs, .no]) (ρ1 := [C cs, .no]) (v := 1) h (by simp [iAny, sVar, bnd, walk, walkL]) rfl (by simp)
  have q : ¬ (500 : Int) < cs.length := by omega
  simp [F_are_counts, g_are_counts, sFun, sSeq, sRet, sRetN, sAnd, sOr, sNot, sIf, sIsi, sVar, sLit, sBin, sUn, ap2, ap1, apC, sOfT, tOfS, tCmp', tChn, tAnd', tOr', tNot', sCall, callV, sCallIO, callIO, aCons, aNil, frzs, frz, derefs, deref, sBlt, sDrop, sAsg, sAsgs, unl, unls, rN, rGo, sIfS, sNx, bnd, finE, tyName, isiN, cd_T, cd_F, cd_if, small, rngOk, mulOk, same_refl, dLen, dGt, q, e, all_true]
theorem v_check_counts {cs : List Int} (h : Cts cs) : F_check_counts [C cs] = .ok (.v .non) [.no] := by
  simp [F_check_counts, g_check_counts, sFun, sSeq, sRet, sRetN, sAnd, sOr, sNot, sIf, sIsi, sVar, sLit, sBin, sUn, ap2, ap1, apC, sOfT, tOfS, tCmp', tChn, tAnd', tOr', tNot', sCall, callV, sCallIO, callIO, aCons, aNil, frzs, frz, derefs, deref, sBlt, sDrop, sAsg, sAsgs, unl, unls, rN, rGo, sIfS, sNx, bnd, finE, tyName, isiN, cd_T, cd_F, cd_if, small, rngOk, mulOk, same_refl, v_are_counts h, v_check]
theorem v_is_count {i : Int} (h : 0 ≤ i) : F_is_count [.val (.int i)] = .ok (.v (.bl true)) [.no] := by
  simp [F_is_count, g_is_count, sFun, sSeq, sRet, sRetN, sAnd, sOr, sNot, sIf, sIsi, sVar, sLit, sBin, sUn, ap2, ap1, apC, sOfT, tOfS, tCmp', tChn, tAnd', tOr', tNot', sCall, callV, sCallIO, callIO, aCons, aNil, frzs, frz, derefs, deref, sBlt, sDrop, sAsg, sAsgs, unl, unls, rN, rGo, sIfS, sNx, bnd, finE, tyName, isiN, cd_T, cd_F, cd_if, small, rngOk, mulOk, same_refl, v_is_integer, dGe, h]
theorem v_falling {cs : List Int} (h : Cts cs) : F_falling [C cs] = .ok (.f (.lst ((fal cs).map D.int))) [.no] := by
  have h1 := h.len
  simp [F_falling, g_falling, sFun, sSeq, sRet, sRetN, sAnd, sOr, sNot, sIf, sIsi, sVar, sLit, sBin, sUn, ap2, ap1, apC, sOfT, tOfS, tCmp', tChn, tAnd', tOr', tNot', sCall, callV, sCallIO, callIO, aCons, aNil, frzs, frz, derefs, deref, sBlt, sDrop, sAsg, sAsgs, unl, unls, rN, rGo, sIfS, sNx, bnd, finE, tyName, isiN, cd_T, cd_F, cd_if, small, rngOk, mulOk, same_refl, dSorted_ints cs (by omega), sRev, fal]
end L2.DL.W

namespace L2.DL.W
open PySem PySem.Spec PyProof.Rows L2 L2.DL L2.DL.Q

def hI (cs : List Int) : Nat := cntI (fun k x => decide (k < x)) 0 (fal cs)
theorem hI_is (cs : List Int) : IsH cs (hI cs) := (isH_of (fal_desc cs)).perm (fal_perm cs)
theorem v_h_by {cs : List Int} (h : Cts cs) : F_h_by [C cs] = .ok (.v (.int (hI cs))) [.no] := by
  have h1 := h.len
  have e := sLc_enum (it := iEnumD (sCall 1 F_falling (aCons (sVar 0) aNil))) (src := none) (ρ := [C cs, .no, .no]) (ρ1 := [C cs, .no, .no]) (ns := fal cs) (tg := gT [gN 1, gN 2]) (tt := tCmp' dGt (sVar 2) (sVar 1)) (te := sLit (.int 1)) (vs := [1, 2])
    (fun k x => decide (k < x)) (fun _ _ => .int 1) (by simp [iEnumD, sFun, sSeq, sRet, sRetN, sAnd, sOr, sNot, sIf, sIsi, sVar, sLit, sBin, sUn, ap2, ap1, apC, sOfT, tOfS, tCmp', tChn, tAnd', tOr', tNot', sCall, callV, sCallIO, callIO, aCons, aNil, frzs, frz, derefs, deref, sBlt, sDrop, sAsg, sAsgs, unl, unls, rN, rGo, sIfS, sNx, bnd, finE, tyName, isiN, cd_T, cd_F, cd_if, small, rngOk, mulOk, same_refl, v_falling h, walkL]) rfl
    (fun k x _ => by by_cases q : k < x <;> simp [cstep, gT, gGo, gN, nox, wipeE, sFun, sSeq, sRet, sRetN, sAnd, sOr, sNot, sIf, sIsi, sVar, sLit, sBin, sUn, ap2, ap1, apC, sOfT, tOfS, tCmp', tChn, tAnd', tOr', tNot', sCall, callV, sCallIO, callIO, aCons, aNil, frzs, frz, derefs, deref, sBlt, sDrop, sAsg, sAsgs, unl, unls, rN, rGo, sIfS, sNx, bnd, finE, tyName, isiN, cd_T, cd_F, cd_if, small, rngOk, mulOk, same_refl, dGt, q]) (by rw [fal_len]; omega)
  simp [F_h_by, g_h_by, sFun, sSeq, sRet, sRetN, sAnd, sOr, sNot, sIf, sIsi, sVar, sLit, sBin, sUn, ap2, ap1, apC, sOfT, tOfS, tCmp', tChn, tAnd', tOr', tNot', sCall, callV, sCallIO, callIO, aCons, aNil, frzs, frz, derefs, deref, sBlt, sDrop, sAsg, sAsgs, unl, unls, rN, rGo, sIfS, sNx, bnd, finE, tyName, isiN, cd_T, cd_F, cd_if, small, rngOk, mulOk, same_refl, e, dLen, enumI_len, hI]
def wI (cs : List Int) : Nat := cntI (fun k x => decide (10 * (k + 1) ≤ x)) 0 (fal cs)
theorem wI_is (cs : List Int) : IsW cs (wI cs) := (isW_of (fal_desc cs)).perm (fal_perm cs)
theorem v_w_of {cs : List Int} (h : Cts cs) : F_w_of [C cs] = .ok (.v (.int (wI cs))) [.no] := by
  have h1 := h.len
  have e := sLc_enum (it := iEnumD (sCall 1 F_falling (aCons (sVar 0) aNil))) (src := none) (ρ := [C cs, .no, .no]) (ρ1 := [C cs, .no, .no]) (ns := fal cs) (tg := gT [gN 1, gN 2]) (tt := tCmp' dGe (sVar 2) (sBin dMul (sLit (.int 10)) (sBin dAdd (sVar 1) (sLit (.int 1))))) (te := sLit (.int 1)) (vs := [1, 2])
    (fun k x => decide (10 * (k + 1) ≤ x)) (fun _ _ => .int 1) (by simp [iEnumD, sFun, sSeq, sRet, sRetN, sAnd, sOr, sNot, sIf, sIsi, sVar, sLit, sBin, sUn, ap2, ap1, apC, sOfT, tOfS, tCmp', tChn, tAnd', tOr', tNot', sCall, callV, sCallIO, callIO, aCons, aNil, frzs, frz, derefs, deref, sBlt, sDrop, sAsg, sAsgs, unl, unls, rN, rGo, sIfS, sNx, bnd, finE, tyName, isiN, cd_T, cd_F, cd_if, small, rngOk, mulOk, same_refl, v_falling h, walkL]) rfl
    (fun k x _ => by by_cases q : 10 * (k + 1) ≤ x <;> simp [cstep, gT, gGo, gN, nox, wipeE, sFun, sSeq, sRet, sRetN, sAnd, sOr, sNot, sIf, sIsi, sVar, sLit, sBin, sUn, ap2, ap1, apC, sOfT, tOfS, tCmp', tChn, tAnd', tOr', tNot', sCall, callV, sCallIO, callIO, aCons, aNil, frzs, frz, derefs, deref, sBlt, sDrop, sAsg, sAsgs, unl, unls, rN, rGo, sIfS, sNx, bnd, finE, tyName, isiN, cd_T, cd_F, cd_if, small, rngOk, mulOk, same_refl, dGe, dMul, mulOk, dAdd, q]) (by rw [fal_len]; omega)
  simp [F_w_of, g_w_of, sFun, sSeq, sRet, sRetN, sAnd, sOr, sNot, sIf, sIsi, sVar, sLit, sBin, sUn, ap2, ap1, apC, sOfT, tOfS, tCmp', tChn, tAnd', tOr', tNot', sCall, callV, sCallIO, callIO, aCons, aNil, frzs, frz, derefs, deref, sBlt, sDrop, sAsg, sAsgs, unl, unls, rN, rGo, sIfS, sNx, bnd, finE, tyName, isiN, cd_T, cd_F, cd_if, small, rngOk, mulOk, same_refl, e, dLen, enumI_len, wI, v_check_counts h]
theorem v_h_of {cs : List Int} (h : Cts cs) : F_h_of [C cs] = .ok (.v (.int (hI cs))) [.no] := by
  simp [F_h_of, g_h_of, sFun, sSeq, sRet, sRetN, sAnd, sOr, sNot, sIf, sIsi, sVar, sLit, sBin, sUn, ap2, ap1, apC, sOfT, tOfS, tCmp', tChn, tAnd', tOr', tNot', sCall, callV, sCallIO, callIO, aCons, aNil, frzs, frz, derefs, deref, sBlt, sDrop, sAsg, sAsgs, unl, unls, rN, rGo, sIfS, sNx, bnd, finE, tyName, isiN, cd_T, cd_F, cd_if, small, rngOk, mulOk, same_refl, v_check_counts h, v_h_by h]
theorem v_core_of {cs : List Int} (h : Cts cs) : F_core_of [C cs] = .ok (.f (.lst (((fal cs).filter fun x => decide ((hI cs : Int) ≤ x)).map D.int))) [.no] := by
  have h1 := h.len
  have e := sLc_ints (it := iAny (sCall 1 F_falling (aCons (sVar 0) aNil))) (src := none) (ρ := [C cs, .val (.int (hI cs)), .no]) (ρ1 := [C cs, .val (.int (hI cs)), .no]) (ns := fal cs) (tg := gN 2) (tt := tCmp' dGe (sVar 2) (sVar 1)) (te := sVar 2) (vs := [2])
    (fun x => decide ((hI cs : Int) ≤ x)) D.int (by simp [iAny, sFun, sSeq, sRet, sRetN, sAnd, sOr, sNot, sIf, sIsi, sVar, sLit, sBin, sUn, ap2, ap1, apC, sOfT, tOfS, tCmp', tChn, tAnd', tOr', tNot', sCall, callV, sCallIO, callIO, aCons, aNil, frzs, frz, derefs, deref, sBlt, sDrop, sAsg, sAsgs, unl, unls, rN, rGo, sIfS, sNx, bnd, finE, tyName, isiN, cd_T, cd_F, cd_if, small, rngOk, mulOk, same_refl, v_falling h, walk, walkL]) rfl
    (fun x _ => by by_cases q : (hI cs : Int) ≤ x <;> simp [cstep, gN, nox, wipeE, sFun, sSeq, sRet, sRetN, sAnd, sOr, sNot, sIf, sIsi, sVar, sLit, sBin, sUn, ap2, ap1, apC, sOfT, tOfS, tCmp', tChn, tAnd', tOr', tNot', sCall, callV, sCallIO, callIO, aCons, aNil, frzs, frz, derefs, deref, sBlt, sDrop, sAsg, sAsgs, unl, unls, rN, rGo, sIfS, sNx, bnd, finE, tyName, isiN, cd_T, cd_F, cd_if, small, rngOk, mulOk, same_refl, dGe, q]) (by rw [fal_len]; omega)
  simp [F_core_of, g_core_of, sFun, sSeq, sRet, sRetN, sAnd, sOr, sNot, sIf, sIsi, sVar, sLit, sBin, sUn, ap2, ap1, apC, sOfT, tOfS, tCmp', tChn, tAnd', tOr', tNot', sCall, callV, sCallIO, callIO, aCons, aNil, frzs, frz, derefs, deref, sBlt, sDrop, sAsg, sAsgs, unl, unls, rN, rGo, sIfS, sNx, bnd, finE, tyName, isiN, cd_T, cd_F, cd_if, small, rngOk, mulOk, same_refl, e, v_check_counts h, v_h_by h]
theorem dSum_ints (ns : List Int) : dSum [.lst (ns.map D.int)] = some (.v (.int ns.sum)) := by
  show (match intsOf (ns.map D.int) with | some ns => some (Rv.v (.int ns.sum)) | none => none) = _
  rw [intsOf_map]
theorem dMul_ok {i j : Int} (h : -(2 ^ 64) < i) (h2 : i < 2 ^ 64) : dMul (.int i) (.int j) = some (.v (.int (i * j))) := by
  have q : mulOk i j = true := cd_true (.inl ⟨h, h2⟩)
  unfold dMul
  simp only [q, if_true]
theorem v_tail_of {cs : List Int} (h : Cts cs) : F_tail_of [C cs] = .ok (.v (.int (cs.sum - hI cs * hI cs))) [.no] := by
  have h1 := h.len
  have h2 := (hI_is cs).le
  have e := dMul_ok (i := hI cs) (j := hI cs) (by omega) (by omega)
  simp [F_tail_of, g_tail_of, sFun, sSeq, sRet, sRetN, sAnd, sOr, sNot, sIf, sIsi, sVar, sLit, sBin, sUn, ap2, ap1, apC, sOfT, tOfS, tCmp', tChn, tAnd', tOr', tNot', sCall, callV, sCallIO, callIO, aCons, aNil, frzs, frz, derefs, deref, sBlt, sDrop, sAsg, sAsgs, unl, unls, rN, rGo, sIfS, sNx, bnd, finE, tyName, isiN, cd_T, cd_F, cd_if, small, rngOk, mulOk, same_refl, v_check_counts h, v_h_by h, dSum_ints, dSub, e]
theorem v_at_least {cs : List Int} {n : Int} (h : Cts cs) (hn : 0 ≤ n) : F_at_least [C cs, .val (.int n)] = .ok (.v (.int (Q.cnt n cs))) [.no, .no] := by
  have h1 := h.len
  have e := sLc_ints (it := iAny (sVar 0)) (src := none) (ρ := [C cs, .val (.int n), .no]) (ρ1 := [C cs, .val (.int n), .no]) (ns := cs) (tg := gN 2) (tt := tCmp' dGe (sVar 2) (sVar 1)) (te := sLit (.int 1)) (vs := [2])
    (fun x => decide (n ≤ x)) (fun _ => D.int 1) (by simp [iAny, sFun, sSeq, sRet, sRetN, sAnd, sOr, sNot, sIf, sIsi, sVar, sLit, sBin, sUn, ap2, ap1, apC, sOfT, tOfS, tCmp', tChn, tAnd', tOr', tNot', sCall, callV, sCallIO, callIO, aCons, aNil, frzs, frz, derefs, deref, sBlt, sDrop, sAsg, sAsgs, unl, unls, rN, rGo, sIfS, sNx, bnd, finE, tyName, isiN, cd_T, cd_F, cd_if, small, rngOk, mulOk, same_refl, walk, walkL]) rfl
    (fun x _ => by by_cases q : n ≤ x <;> simp [cstep, gN, nox, wipeE, sFun, sSeq, sRet, sRetN, sAnd, sOr, sNot, sIf, sIsi, sVar, sLit, sBin, sUn, ap2, ap1, apC, sOfT, tOfS, tCmp', tChn, tAnd', tOr', tNot', sCall, callV, sCallIO, callIO, aCons, aNil, frzs, frz, derefs, deref, sBlt, sDrop, sAsg, sAsgs, unl, unls, rN, rGo, sIfS, sNx, bnd, finE, tyName, isiN, cd_T, cd_F, cd_if, small, rngOk, mulOk, same_refl, dGe, q]) (by omega)
  simp [F_at_least, g_at_least, sFun, sSeq, sRet, sRetN, sAnd, sOr, sNot, sIf, sIsi, sVar, sLit, sBin, sUn, ap2, ap1, apC, sOfT, tOfS, tCmp', tChn, tAnd', tOr', tNot', sCall, callV, sCallIO, callIO, aCons, aNil, frzs, frz, derefs, deref, sBlt, sDrop, sAsg, sAsgs, unl, unls, rN, rGo, sIfS, sNx, bnd, finE, tyName, isiN, cd_T, cd_F, cd_if, small, rngOk, mulOk, same_refl, e, v_check_counts h, v_is_count hn, v_check, dLen, Q.cnt]
theorem v_takes_h {cs : List Int} {n : Int} (h : Cts cs) : F_takes_h [C cs, .val (.int n)] = .ok (.v (.bl (decide (0 ≤ n) && decide (n ≤ Q.cnt n cs) && decide ((Q.cnt (n + 1) cs : Int) ≤ n)))) [.no, .no] := by
  have h1 := h.len
  have e0 := lc_within (it := iAny (sVar 0)) (src := none) (ρ := [C cs, .val (.int n), .no]) (ρ1 := [C cs, .val (.int n), .no]) (v := 2) h (by simp [iAny, sVar, bnd, walk, walkL]) rfl (by simp)
  have e := sLc_ints (it := iAny (sVar 0)) (src := none) (ρ := [C cs, .val (.int n), .no]) (ρ1 := [C cs, .val (.int n), .no]) (ns := cs) (tg := gN 2) (tt := tCmp' dGe (sVar 2) (sVar 1)) (te := sLit (.int 1)) (vs := [2])
    (fun x => decide (n ≤ x)) (fun _ => D.int 1) (by simp [iAny, sFun, sSeq, sRet, sRetN, sAnd, sOr, sNot, sIf, sIsi, sVar, sLit, sBin, sUn, ap2, ap1, apC, sOfT, tOfS, tCmp', tChn, tAnd', tOr', tNot', sCall, callV, sCallIO, callIO, aCons, aNil, frzs, frz, derefs, deref, sBlt, sDrop, sAsg, sAsgs, unl, unls, rN, rGo, sIfS, sNx, bnd, finE, tyName, isiN, cd_T, cd_F, cd_if, small, rngOk, mulOk, same_refl, walk, walkL]) rfl
    (fun x _ => by by_cases q : n ≤ x <;> simp [cstep, gN, nox, wipeE, sFun, sSeq, sRet, sRetN, sAnd, sOr, sNot, sIf, sIsi, sVar, sLit, sBin, sUn, ap2, ap1, apC, sOfT, tOfS, tCmp', tChn, tAnd', tOr', tNot', sCall, callV, sCallIO, callIO, aCons, aNil, frzs, frz, derefs, deref, sBlt, sDrop, sAsg, sAsgs, unl, unls, rN, rGo, sIfS, sNx, bnd, finE, tyName, isiN, cd_T, cd_F, cd_if, small, rngOk, mulOk, same_refl, dGe, q]) (by omega)
  have e2 := sLc_ints (it := iAny (sVar 0)) (src := none) (ρ := [C cs, .val (.int n), .no]) (ρ1 := [C cs, .val (.int n), .no]) (ns := cs) (tg := gN 2) (tt := tCmp' dGt (sVar 2) (sVar 1)) (te := sLit (.int 1)) (vs := [2])
    (fun x => decide (n + 1 ≤ x)) (fun _ => D.int 1) (by simp [iAny, sFun, sSeq, sRet, sRetN, sAnd, sOr, sNot, sIf, sIsi, sVar, sLit, sBin, sUn, ap2, ap1, apC, sOfT, tOfS, tCmp', tChn, tAnd', tOr', tNot', sCall, callV, sCallIO, callIO, aCons, aNil, frzs, frz, derefs, deref, sBlt, sDrop, sAsg, sAsgs, unl, unls, rN, rGo, sIfS, sNx, bnd, finE, tyName, isiN, cd_T, cd_F, cd_if, small, rngOk, mulOk, same_refl, walk, walkL]) rfl
    (fun x _ => by
      by_cases q : n < x
      · have q' : n + 1 ≤ x := by omega
        simp [cstep, gN, nox, wipeE, sFun, sSeq, sRet, sRetN, sAnd, sOr, sNot, sIf, sIsi, sVar, sLit, sBin, sUn, ap2, ap1, apC, sOfT, tOfS, tCmp', tChn, tAnd', tOr', tNot', sCall, callV, sCallIO, callIO, aCons, aNil, frzs, frz, derefs, deref, sBlt, sDrop, sAsg, sAsgs, unl, unls, rN, rGo, sIfS, sNx, bnd, finE, tyName, isiN, cd_T, cd_F, cd_if, small, rngOk, mulOk, same_refl, dGt, q, q']
      · have q' : ¬ n + 1 ≤ x := by omega
        simp [cstep, gN, nox, wipeE, sFun, sSeq, sRet, sRetN, sAnd, sOr, sNot, sIf, sIsi, sVar, sLit, sBin, sUn, ap2, ap1, apC, sOfT, tOfS, tCmp', tChn, tAnd', tOr', tNot', sCall, callV, sCallIO, callIO, aCons, aNil, frzs, frz, derefs, deref, sBlt, sDrop, sAsg, sAsgs, unl, unls, rN, rGo, sIfS, sNx, bnd, finE, tyName, isiN, cd_T, cd_F, cd_if, small, rngOk, mulOk, same_refl, dGt, q, q']) (by omega)
  have l5 : (cs.length : Int) ≤ 500 := by omega
  by_cases hn : n < 0
  · have hn' : ¬ 0 ≤ n := by omega
    simp [F_takes_h, g_takes_h, sFun, sSeq, sRet, sRetN, sAnd, sOr, sNot, sIf, sIsi, sVar, sLit, sBin, sUn, ap2, ap1, apC, sOfT, tOfS, tCmp', tChn, tAnd', tOr', tNot', sCall, callV, sCallIO, callIO, aCons, aNil, frzs, frz, derefs, deref, sBlt, sDrop, sAsg, sAsgs, unl, unls, rN, rGo, sIfS, sNx, bnd, finE, tyName, isiN, cd_T, cd_F, cd_if, small, rngOk, mulOk, same_refl, e0, dLen, dLe, l5, all_true, v_check, v_is_integer, dLt, hn, hn']
  · have hn' : 0 ≤ n := by omega
    simp [F_takes_h, g_takes_h, sFun, sSeq, sRet, sRetN, sAnd, sOr, sNot, sIf, sIsi, sVar, sLit, sBin, sUn, ap2, ap1, apC, sOfT, tOfS, tCmp', tChn, tAnd', tOr', tNot', sCall, callV, sCallIO, callIO, aCons, aNil, frzs, frz, derefs, deref, sBlt, sDrop, sAsg, sAsgs, unl, unls, rN, rGo, sIfS, sNx, bnd, finE, tyName, isiN, cd_T, cd_F, cd_if, small, rngOk, mulOk, same_refl, e0, e, e2, dLen, dLe, l5, all_true, v_check, v_is_integer, dLt, dGe, hn, hn']
    by_cases q : n ≤ Q.cnt n cs
    · have q' := q
      unfold Q.cnt at q'
      simp [q', q]
      rw [cd_eq]
      rfl
    · have q' := q
      unfold Q.cnt at q'
      simp [q', q]
end L2.DL.W

namespace L2.DL.W
open PySem PySem.Spec PyProof.Rows L2 L2.DL L2.DL.Q
theorem dMax_ii (i j : Int) : dMax [.int i, .int j] = some (.v (.int (if j > i then j else i))) := by
  show some (Rv.v (.int (if cd (j > i) = true then j else i))) = _
  rw [cd_if]
theorem cut_none {α : Type} (xs : List α) (h : Int) (h0 : 0 ≤ h) : cutL xs none (some h) = xs.take h.toNat := by
  obtain ⟨k, rfl⟩ := Int.eq_ofNat_of_zero_le h0
  unfold cutL
  rw [HT.sIx_none]
  rw [show HT.sIx xs.length xs.length (some (k : Int)) = min k xs.length from HT.sIx_nat xs.length xs.length k]
  rw [List.drop_zero, Nat.sub_zero]
  show xs.take (min k xs.length) = xs.take k
  rw [List.take_eq_take_iff]
  omega
theorem dSl_ints (ns : List Int) (h : Int) (h0 : 0 ≤ h) : dSl (.lst (ns.map D.int)) none (some h) = some (.f (.lst ((ns.take h.toNat).map D.int))) := by
  show some (Rv.f (.lst (cutL (ns.map D.int) none (some h)))) = _
  rw [cut_none _ _ h0, List.map_take]
theorem v_lacking {cs : List Int} {h : Nat} (hc : Cts cs) : F_lacking [C cs, .val (.int h)] = .ok (.v (.int (lack cs h))) [.no, .no] := by
  have h1 := hc.len
  have e := sLc_ints (it := iAny (sSl (sCall 1 F_falling (aCons (sVar 0) aNil)) (pPart none) (pPart (some (sVar 1))))) (src := none) (ρ := [C cs, .val (.int h), .no]) (ρ1 := [C cs, .val (.int h), .no]) (ns := (fal cs).take h) (tg := gN 2) (tt := tYesD) (te := sBlt dMax (aCons (sLit (.int 0)) (aCons (sBin dSub (sVar 1) (sVar 2)) aNil))) (vs := [2])
    (fun _ => true) (fun x => D.int (gap h x)) (by simp [iAny, sSl, pPart, sFun, sSeq, sRet, sRetN, sAnd, sOr, sNot, sIf, sIsi, sVar, sLit, sBin, sUn, ap2, ap1, apC, sOfT, tOfS, tCmp', tChn, tAnd', tOr', tNot', sCall, callV, sCallIO, callIO, aCons, aNil, frzs, frz, derefs, deref, sBlt, sDrop, sAsg, sAsgs, unl, unls, rN, rGo, sIfS, sNx, bnd, finE, tyName, isiN, cd_T, cd_F, cd_if, small, rngOk, mulOk, same_refl, v_falling hc, dSl_ints, walk, walkL]) rfl
    (fun x _ => by simp [cstep, gN, nox, tYesD, wipeE, sFun, sSeq, sRet, sRetN, sAnd, sOr, sNot, sIf, sIsi, sVar, sLit, sBin, sUn, ap2, ap1, apC, sOfT, tOfS, tCmp', tChn, tAnd', tOr', tNot', sCall, callV, sCallIO, callIO, aCons, aNil, frzs, frz, derefs, deref, sBlt, sDrop, sAsg, sAsgs, unl, unls, rN, rGo, sIfS, sNx, bnd, finE, tyName, isiN, cd_T, cd_F, cd_if, small, rngOk, mulOk, same_refl, dSub, dMax_ii, gap]) (by rw [List.length_take, fal_len]; omega)
  rw [List.filter_eq_self.mpr fun _ _ => rfl] at e
  have e2 : ((fal cs).take h).map (fun x => D.int (gap h x)) = (((fal cs).take h).map (gap h)).map D.int := by rw [List.map_map]; rfl
  rw [e2] at e
  have e3 : lack cs h = (((fal cs).take h).map (gap h)).sum := rfl
  generalize ((fal cs).take h).map (gap h) = m at e e3
  simp [F_lacking, g_lacking, sFun, sSeq, sRet, sRetN, sAnd, sOr, sNot, sIf, sIsi, sVar, sLit, sBin, sUn, ap2, ap1, apC, sOfT, tOfS, tCmp', tChn, tAnd', tOr', tNot', sCall, callV, sCallIO, callIO, aCons, aNil, frzs, frz, derefs, deref, sBlt, sDrop, sAsg, sAsgs, unl, unls, rN, rGo, sIfS, sNx, bnd, finE, tyName, isiN, cd_T, cd_F, cd_if, small, rngOk, mulOk, same_refl, e, dSum_ints, e3]

/-! ### the greatest h that can be reached -/
theorem most_ex {cs : List Int} {more : Int} (hc : Cts cs) (hm : 0 ≤ more) : ∃ M, IsM cs (hI cs) more M ∧ F_most_h [C cs, .val (.int more)] = .ok (.v (.int M)) [.no, .no] := by
  have hH := hI_is cs
  have hl := hH.le
  let body : Sm Fl := sAug 2 dIAdd (sLit (.int 1))
  let t : Sm Bool := tAnd' (tCmp' dLt (sVar 2) (sBlt dLen (aCons (sVar 0) aNil))) (tCmp' dLe (sCall 2 F_lacking (aCons (sVar 0) (aCons (sBin dAdd (sVar 2) (sLit (.int 1))) aNil))) (sVar 1))
  have key := whGo_inv (t := t) (body := body) (n := fuel) (P := fun m ρ => ∃ M : Nat, ρ = [C cs, .val (.int more), .val (.int M)] ∧ hI cs ≤ M ∧ M ≤ cs.length ∧ lack cs M ≤ more ∧ (m = cs.length - M ∨ (m = 0 ∧ (M = cs.length ∨ more < lack cs (M + 1)))))
    (fun m ρ ⟨M, e, g1, g2, g3, g4⟩ => by
      subst e
      by_cases q : M < cs.length
      · have q1 : (M : Int) < (cs.length : Int) := by omega
        have lk := v_lacking (h := M + 1) hc
        rw [show ((M + 1 : Nat) : Int) = (M : Int) + 1 by omega] at lk
        by_cases q2 : lack cs (M + 1) ≤ more
        · refine .inr ⟨[C cs, .val (.int more), .val (.int M)], .nx, [C cs, .val (.int more), .val (.int ((M + 1 : Nat) : Int))], cs.length - (M + 1), ?_, ?_, .inl rfl, ?_, M + 1, rfl, by omega, by omega, q2, .inl rfl⟩
          · simp [t, sFun, sSeq, sRet, sRetN, sAnd, sOr, sNot, sIf, sIsi, sVar, sLit, sBin, sUn, ap2, ap1, apC, sOfT, tOfS, tCmp', tChn, tAnd', tOr', tNot', sCall, callV, sCallIO, callIO, aCons, aNil, frzs, frz, derefs, deref, sBlt, sDrop, sAsg, sAsgs, unl, unls, rN, rGo, sIfS, sNx, bnd, finE, tyName, isiN, cd_T, cd_F, cd_if, small, rngOk, mulOk, same_refl, dLen, dLt, q1, dAdd, lk, dLe, q2]
          · simp [body, sAug, sFun, sSeq, sRet, sRetN, sAnd, sOr, sNot, sIf, sIsi, sVar, sLit, sBin, sUn, ap2, ap1, apC, sOfT, tOfS, tCmp', tChn, tAnd', tOr', tNot', sCall, callV, sCallIO, callIO, aCons, aNil, frzs, frz, derefs, deref, sBlt, sDrop, sAsg, sAsgs, unl, unls, rN, rGo, sIfS, sNx, bnd, finE, tyName, isiN, cd_T, cd_F, cd_if, small, rngOk, mulOk, same_refl, dIAdd]
          · rcases g4 with g4 | ⟨g4, g5 | g5⟩ <;> omega
        · refine .inl ⟨[C cs, .val (.int more), .val (.int M)], ?_, M, rfl, g1, g2, g3, .inr ⟨rfl, .inr (by omega)⟩⟩
          simp [t, sFun, sSeq, sRet, sRetN, sAnd, sOr, sNot, sIf, sIsi, sVar, sLit, sBin, sUn, ap2, ap1, apC, sOfT, tOfS, tCmp', tChn, tAnd', tOr', tNot', sCall, callV, sCallIO, callIO, aCons, aNil, frzs, frz, derefs, deref, sBlt, sDrop, sAsg, sAsgs, unl, unls, rN, rGo, sIfS, sNx, bnd, finE, tyName, isiN, cd_T, cd_F, cd_if, small, rngOk, mulOk, same_refl, dLen, dLt, q1, dAdd, lk, dLe, q2]
      · have q1 : ¬ (M : Int) < (cs.length : Int) := by omega
        refine .inl ⟨[C cs, .val (.int more), .val (.int M)], ?_, M, rfl, g1, g2, g3, .inr ⟨rfl, .inl (by omega)⟩⟩
        simp [t, sFun, sSeq, sRet, sRetN, sAnd, sOr, sNot, sIf, sIsi, sVar, sLit, sBin, sUn, ap2, ap1, apC, sOfT, tOfS, tCmp', tChn, tAnd', tOr', tNot', sCall, callV, sCallIO, callIO, aCons, aNil, frzs, frz, derefs, deref, sBlt, sDrop, sAsg, sAsgs, unl, unls, rN, rGo, sIfS, sNx, bnd, finE, tyName, isiN, cd_T, cd_F, cd_if, small, rngOk, mulOk, same_refl, dLen, dLt, q1])
    (m := cs.length - hI cs) (ρ := [C cs, .val (.int more), .val (.int (hI cs))]) ⟨hI cs, rfl, Nat.le_refl _, hl, by rw [lack_zero hH]; exact hm, .inl rfl⟩ (by have := hc.len; have := fuel_big; omega)
  obtain ⟨ρ', e, M, rfl, g1, g2, g3, g4⟩ := key
  refine ⟨M, ⟨g1, g2, g3, ?_⟩, ?_⟩
  · rcases g4 with g4 | ⟨_, g4⟩
    · exact .inl (by omega)
    · exact g4
  · have e : whGo (tAnd' (tCmp' dLt (sVar 2) (sBlt dLen (aCons (sVar 0) aNil))) (tCmp' dLe (sCall 2 F_lacking (aCons (sVar 0) (aCons (sBin dAdd (sVar 2) (sLit (.int 1))) aNil))) (sVar 1))) (sAug 2 dIAdd (sLit (.int 1))) fuel [C cs, .val (.int more), .val (.int (hI cs))] = _ := e
    simp [F_most_h, g_most_h, sFun, sSeq, sRet, sRetN, sAnd, sOr, sNot, sIf, sIsi, sVar, sLit, sBin, sUn, ap2, ap1, apC, sOfT, tOfS, tCmp', tChn, tAnd', tOr', tNot', sCall, callV, sCallIO, callIO, aCons, aNil, frzs, frz, derefs, deref, sBlt, sDrop, sAsg, sAsgs, unl, unls, rN, rGo, sIfS, sNx, bnd, finE, tyName, isiN, cd_T, cd_F, cd_if, small, rngOk, mulOk, same_refl, v_h_by hc, e]
end L2.DL.W

namespace L2.DL.W
open PySem PySem.Spec PyProof.Rows L2 L2.DL L2.DL.Q
/-! ### the functions above it -/
noncomputable def mI (cs : List Int) (more : Int) : Nat := match F_most_h [C cs, .val (.int more)] with
  | .ok (.v (.int M)) _ => M.toNat
  | _ => 0
theorem mI_is {cs : List Int} {more : Int} (hc : Cts cs) (hm : 0 ≤ more) : IsM cs (hI cs) more (mI cs more) ∧ F_most_h [C cs, .val (.int more)] = .ok (.v (.int (mI cs more))) [.no, .no] := by
  obtain ⟨M, h1, h2⟩ := most_ex hc hm
  have e : mI cs more = M := by unfold mI; rw [h2]; rfl
  rw [e]; exact ⟨h1, h2⟩
theorem v_h_with {cs : List Int} {more : Int} (hc : Cts cs) (hm : 0 ≤ more) : F_h_with [C cs, .val (.int more)] = .ok (.v (.int (mI cs more))) [.no, .no] := by
  simp [F_h_with, g_h_with, sFun, sSeq, sRet, sRetN, sAnd, sOr, sNot, sIf, sIsi, sVar, sLit, sBin, sUn, ap2, ap1, apC, sOfT, tOfS, tCmp', tChn, tAnd', tOr', tNot', sCall, callV, sCallIO, callIO, aCons, aNil, frzs, frz, derefs, deref, sBlt, sDrop, sAsg, sAsgs, unl, unls, rN, rGo, sIfS, sNx, bnd, finE, tyName, isiN, cd_T, cd_F, cd_if, small, rngOk, mulOk, same_refl, v_check_counts hc, v_is_count hm, v_check, (mI_is hc hm).2]
theorem fal_zero {cs : List Int} (h : ∀ c ∈ cs, 0 ≤ c) : fal (cs ++ [0]) = fal cs ++ [0] := by
  refine desc_eq (fal_desc _) ?_ ((fal_perm _).trans ((fal_perm cs).symm.append_right [0]))
  unfold Desc
  rw [List.pairwise_append]
  refine ⟨fal_desc cs, List.pairwise_singleton _ _, fun a ha b hb => ?_⟩
  rw [List.mem_singleton] at hb
  subst hb
  exact h a ((fal_perm cs).subset ha)
theorem lack_zero' {cs : List Int} {k : Nat} (h : ∀ c ∈ cs, 0 ≤ c) (hk : k ≤ cs.length) : lack (cs ++ [0]) k = lack cs k := by
  unfold lack
  rw [fal_zero h, List.take_append_of_le_length (by rw [fal_len]; exact hk)]
structure Cts1 (cs : List Int) : Prop where
  len : cs.length ≤ 501
  nn : ∀ c ∈ cs, 0 ≤ c
theorem v_falling1 {cs : List Int} (h : Cts1 cs) : F_falling [C cs] = .ok (.f (.lst ((fal cs).map D.int))) [.no] := by
  have h1 := h.len
  simp [F_falling, g_falling, sFun, sSeq, sRet, sRetN, sAnd, sOr, sNot, sIf, sIsi, sVar, sLit, sBin, sUn, ap2, ap1, apC, sOfT, tOfS, tCmp', tChn, tAnd', tOr', tNot', sCall, callV, sCallIO, callIO, aCons, aNil, frzs, frz, derefs, deref, sBlt, sDrop, sAsg, sAsgs, unl, unls, rN, rGo, sIfS, sNx, bnd, finE, tyName, isiN, cd_T, cd_F, cd_if, small, rngOk, mulOk, same_refl, dSorted_ints cs (by omega), sRev, fal]
theorem v_lacking1 {cs : List Int} {h : Nat} (hc : Cts1 cs) : F_lacking [C cs, .val (.int h)] = .ok (.v (.int (lack cs h))) [.no, .no] := by
  have h1 := hc.len
  have e := sLc_ints (it := iAny (sSl (sCall 1 F_falling (aCons (sVar 0) aNil)) (pPart none) (pPart (some (sVar 1))))) (src := none) (ρ := [C cs, .val (.int h), .no]) (ρ1 := [C cs, .val (.int h), .no]) (ns := (fal cs).take h) (tg := gN 2) (tt := tYesD) (te := sBlt dMax (aCons (sLit (.int 0)) (aCons (sBin dSub (sVar 1) (sVar 2)) aNil))) (vs := [2])
    (fun _ => true) (fun x => D.int (gap h x)) (by simp [iAny, sSl, pPart, sFun, sSeq, sRet, sRetN, sAnd, sOr, sNot, sIf, sIsi, sVar, sLit, sBin, sUn, ap2, ap1, apC, sOfT, tOfS, tCmp', tChn, tAnd', tOr', tNot', sCall, callV, sCallIO, callIO, aCons, aNil, frzs, frz, derefs, deref, sBlt, sDrop, sAsg, sAsgs, unl, unls, rN, rGo, sIfS, sNx, bnd, finE, tyName, isiN, cd_T, cd_F, cd_if, small, rngOk, mulOk, same_refl, v_falling1 hc, dSl_ints, walk, walkL]) rfl
    (fun x _ => by simp [cstep, gN, nox, tYesD, wipeE, sFun, sSeq, sRet, sRetN, sAnd, sOr, sNot, sIf, sIsi, sVar, sLit, sBin, sUn, ap2, ap1, apC, sOfT, tOfS, tCmp', tChn, tAnd', tOr', tNot', sCall, callV, sCallIO, callIO, aCons, aNil, frzs, frz, derefs, deref, sBlt, sDrop, sAsg, sAsgs, unl, unls, rN, rGo, sIfS, sNx, bnd, finE, tyName, isiN, cd_T, cd_F, cd_if, small, rngOk, mulOk, same_refl, dSub, dMax_ii, gap]) (by rw [List.length_take, fal_len]; omega)
  rw [List.filter_eq_self.mpr fun _ _ => rfl] at e
  have e2 : ((fal cs).take h).map (fun x => D.int (gap h x)) = (((fal cs).take h).map (gap h)).map D.int := by rw [List.map_map]; rfl
  rw [e2] at e
  have e3 : lack cs h = (((fal cs).take h).map (gap h)).sum := rfl
  generalize ((fal cs).take h).map (gap h) = m at e e3
  simp [F_lacking, g_lacking, sFun, sSeq, sRet, sRetN, sAnd, sOr, sNot, sIf, sIsi, sVar, sLit, sBin, sUn, ap2, ap1, apC, sOfT, tOfS, tCmp', tChn, tAnd', tOr', tNot', sCall, callV, sCallIO, callIO, aCons, aNil, frzs, frz, derefs, deref, sBlt, sDrop, sAsg, sAsgs, unl, unls, rN, rGo, sIfS, sNx, bnd, finE, tyName, isiN, cd_T, cd_F, cd_if, small, rngOk, mulOk, same_refl, e, dSum_ints, e3]
theorem v_next_step {cs : List Int} (hc : Cts cs) (b : Bool) : F_next_step [C cs, .val (.bl b)] = .ok (if cs.length < hI cs + 1 ∧ b = false then .v .non else .v (.int (lack (cs ++ [0]) (hI cs + 1)))) [.no, .no] := by
  have h1 := hc.len
  have h2 : Cts1 (cs ++ [0]) := ⟨by rw [List.length_append]; simp; omega, fun c q => by rcases List.mem_append.mp q with q | q; exact hc.nn c q; rw [List.mem_singleton] at q; omega⟩
  have e1 : (aStar (sVar 0) (aCons (sLit (.int 0)) aNil)) [C cs, .val (.bl b), .val (.int (hI cs + 1))] = .ok ((cs ++ [0]).map fun x => Rv.v (.int x)) [C cs, .val (.bl b), .val (.int (hI cs + 1))] := by
    simp [aStar, sFun, sSeq, sRet, sRetN, sAnd, sOr, sNot, sIf, sIsi, sVar, sLit, sBin, sUn, ap2, ap1, apC, sOfT, tOfS, tCmp', tChn, tAnd', tOr', tNot', sCall, callV, sCallIO, callIO, aCons, aNil, frzs, frz, derefs, deref, sBlt, sDrop, sAsg, sAsgs, unl, unls, rN, rGo, sIfS, sNx, bnd, finE, tyName, isiN, cd_T, cd_F, cd_if, small, rngOk, mulOk, same_refl]
  have e2 : ∀ (l : List Int) (ρ : DEnv), frzs (l.map fun x => Rv.v (.int x)) ρ = some (l.map D.int, ρ) := by
    intro l ρ
    induction l with
    | nil => rfl
    | cons x l ih => simp [frzs, frz, ih]
  have e3 : (sLst (aStar (sVar 0) (aCons (sLit (.int 0)) aNil))) [C cs, .val (.bl b), .val (.int (hI cs + 1))] = .ok (.f (.lst ((cs ++ [0]).map D.int))) [C cs, .val (.bl b), .val (.int (hI cs + 1))] := by
    unfold sLst
    rw [e1]
    show (match frzs _ _ with | some (ds, ρ2) => if small ds.length = true then Out.ok (Rv.f (.lst ds)) ρ2 else .bad | none => .bad) = _
    rw [e2]
    have hz : small ((cs ++ [0]).map D.int).length = true := cd_true (by simp; omega)
    show (if small ((cs ++ [0]).map D.int).length = true then _ else _) = _
    rw [if_pos hz]
  have e4 := v_lacking1 (h := hI cs + 1) h2
  generalize lack (cs ++ [0]) (hI cs + 1) = lk at e4
  generalize cs ++ [0] = cz at e3 e4
  rw [show ((hI cs + 1 : Nat) : Int) = (hI cs : Int) + 1 by omega] at e4
  by_cases q : cs.length < hI cs + 1
  · have q1 : (cs.length : Int) < (hI cs : Int) + 1 := by omega
    cases b with
    | false => simp [F_next_step, g_next_step, sFun, sSeq, sRet, sRetN, sAnd, sOr, sNot, sIf, sIsi, sVar, sLit, sBin, sUn, ap2, ap1, apC, sOfT, tOfS, tCmp', tChn, tAnd', tOr', tNot', sCall, callV, sCallIO, callIO, aCons, aNil, frzs, frz, derefs, deref, sBlt, sDrop, sAsg, sAsgs, unl, unls, rN, rGo, sIfS, sNx, bnd, finE, tyName, isiN, cd_T, cd_F, cd_if, small, rngOk, mulOk, same_refl, v_check_counts hc, v_check, v_h_by hc, dAdd, dLen, dLt, q1, q]
    | true => simp [F_next_step, g_next_step, sFun, sSeq, sRet, sRetN, sAnd, sOr, sNot, sIf, sIsi, sVar, sLit, sBin, sUn, ap2, ap1, apC, sOfT, tOfS, tCmp', tChn, tAnd', tOr', tNot', sCall, callV, sCallIO, callIO, aCons, aNil, frzs, frz, derefs, deref, sBlt, sDrop, sAsg, sAsgs, unl, unls, rN, rGo, sIfS, sNx, bnd, finE, tyName, isiN, cd_T, cd_F, cd_if, small, rngOk, mulOk, same_refl, v_check_counts hc, v_check, v_h_by hc, dAdd, dLen, dLt, q1, q, e3, e4]
  · have q1 : ¬ (cs.length : Int) < (hI cs : Int) + 1 := by omega
    simp [F_next_step, g_next_step, sFun, sSeq, sRet, sRetN, sAnd, sOr, sNot, sIf, sIsi, sVar, sLit, sBin, sUn, ap2, ap1, apC, sOfT, tOfS, tCmp', tChn, tAnd', tOr', tNot', sCall, callV, sCallIO, callIO, aCons, aNil, frzs, frz, derefs, deref, sBlt, sDrop, sAsg, sAsgs, unl, unls, rN, rGo, sIfS, sNx, bnd, finE, tyName, isiN, cd_T, cd_F, cd_if, small, rngOk, mulOk, same_refl, v_check_counts hc, v_check, v_h_by hc, dAdd, dLen, dLt, q1, q, e3, e4]

/-! ### g -/
theorem g_ex {cs : List Int} (hc : Cts cs) : ∃ G, IsG (fal cs) G ∧ F_g_by [C cs] = .ok (.v (.int G)) [.no] := by
  have h1 := hc.len
  have hl := fal_len cs
  let st : Nat → DEnv → Prop := fun k ρ => ∃ (G : Nat) (a b : Cell), ρ = [C cs, .val (.int G), .val (.int ((fal cs).take k).sum), a, b] ∧ G ≤ k ∧ (G : Int) * G ≤ ((fal cs).take G).sum ∧ ∀ m : Nat, G < m → m ≤ k → ((fal cs).take m).sum < (m : Int) * m
  have key := forGo_inv (src := none) (tg := gT [gN 3, gN 4]) (body := sSeq (sAug 2 dIAdd (sVar 4)) (sIfS (tCmp' dGe (sVar 2) (sBin dMul (sBin dAdd (sVar 3) (sLit (.int 1))) (sBin dAdd (sVar 3) (sLit (.int 1))))) (sAsg (rN 1) (sBin dAdd (sVar 3) (sLit (.int 1)))) sNx)) (P := st) (l := enumD 0 ((fal cs).map D.int)) (k := 0) (ρ := [C cs, .val (.int 0), .val (.int 0), .no, .no])
    (fun _ _ _ => rfl) (fun i d ρ hd hp => by
      obtain ⟨G, a, b, rfl, g1, g2, g3⟩ := hp
      obtain ⟨e, he, rfl⟩ := enumD_get hd
      rw [List.getElem?_map] at he
      cases hx : (fal cs)[i]? with
      | none => rw [hx] at he; cases he
      | some x =>
        rw [hx] at he; cases he
        have hi : i < (fal cs).length := (List.getElem?_eq_some_iff.mp hx).1
        have hs : ((fal cs).take (0 + i + 1)).sum = ((fal cs).take (0 + i)).sum + x := by
          rw [Nat.zero_add, List.take_add_one, hx, List.sum_append]; simp
        have hm := dMul_ok (i := (i : Int) + 1) (j := (i : Int) + 1) (by omega) (by omega)
        have hii : ((0 + i : Nat) : Int) = (i : Int) := by omega
        by_cases q : ((i : Int) + 1) * ((i : Int) + 1) ≤ ((fal cs).take (0 + i)).sum + x
        · refine ⟨.nx, [C cs, .val (.int ((i + 1 : Nat) : Int)), .val (.int ((fal cs).take (0 + i + 1)).sum), .val (.int i), .val (.int x)], ?_, .inl rfl, i + 1, _, _, rfl, by omega, ?_, fun m m1 m2 => by omega⟩
          · rw [hs]
            simp only [Nat.zero_add] at q ⊢
            simp [gT, gGo, gN, sAug, sFun, sSeq, sRet, sRetN, sAnd, sOr, sNot, sIf, sIsi, sVar, sLit, sBin, sUn, ap2, ap1, apC, sOfT, tOfS, tCmp', tChn, tAnd', tOr', tNot', sCall, callV, sCallIO, callIO, aCons, aNil, frzs, frz, derefs, deref, sBlt, sDrop, sAsg, sAsgs, unl, unls, rN, rGo, sIfS, sNx, bnd, finE, tyName, isiN, cd_T, cd_F, cd_if, small, rngOk, mulOk, same_refl, dIAdd, dAdd, hm, dGe, q]
          · rw [show i + 1 = 0 + i + 1 by omega, hs, show ((0 + i + 1 : Nat) : Int) = (i : Int) + 1 by omega]; exact q
        · refine ⟨.nx, [C cs, .val (.int G), .val (.int ((fal cs).take (0 + i + 1)).sum), .val (.int i), .val (.int x)], ?_, .inl rfl, G, _, _, rfl, by omega, g2, fun m m1 m2 => ?_⟩
          · rw [hs]
            simp only [Nat.zero_add] at q ⊢
            simp [gT, gGo, gN, sAug, sFun, sSeq, sRet, sRetN, sAnd, sOr, sNot, sIf, sIsi, sVar, sLit, sBin, sUn, ap2, ap1, apC, sOfT, tOfS, tCmp', tChn, tAnd', tOr', tNot', sCall, callV, sCallIO, callIO, aCons, aNil, frzs, frz, derefs, deref, sBlt, sDrop, sAsg, sAsgs, unl, unls, rN, rGo, sIfS, sNx, bnd, finE, tyName, isiN, cd_T, cd_F, cd_if, small, rngOk, mulOk, same_refl, dIAdd, dAdd, hm, dGe, q]
          · by_cases z : m ≤ 0 + i
            · exact g3 m m1 z
            · have : m = 0 + i + 1 := by omega
              subst this
              rw [hs, show ((0 + i + 1 : Nat) : Int) = (i : Int) + 1 by omega]
              omega) ⟨0, _, _, rfl, Nat.le_refl _, by simp, fun m m1 m2 => by omega⟩
  obtain ⟨ρ', e, G, a, b, rfl, g1, g2, g3⟩ := key
  rw [enumD_len, List.length_map, Nat.zero_add] at g1 g3
  refine ⟨G, ⟨g1, g2, g3⟩, ?_⟩
  have e0 := sFor_go (fxL := fxs []) (it := iEnumD (sCall 1 F_falling (aCons (sVar 0) aNil))) (ρ := [C cs, .val (.int 0), .val (.int 0), .no, .no]) (by simp [iEnumD, sFun, sSeq, sRet, sRetN, sAnd, sOr, sNot, sIf, sIsi, sVar, sLit, sBin, sUn, ap2, ap1, apC, sOfT, tOfS, tCmp', tChn, tAnd', tOr', tNot', sCall, callV, sCallIO, callIO, aCons, aNil, frzs, frz, derefs, deref, sBlt, sDrop, sAsg, sAsgs, unl, unls, rN, rGo, sIfS, sNx, bnd, finE, tyName, isiN, cd_T, cd_F, cd_if, small, rngOk, mulOk, same_refl, v_falling hc, walkL]) e
  simp [F_g_by, g_g_by, sFun, sSeq, sRet, sRetN, sAnd, sOr, sNot, sIf, sIsi, sVar, sLit, sBin, sUn, ap2, ap1, apC, sOfT, tOfS, tCmp', tChn, tAnd', tOr', tNot', sCall, callV, sCallIO, callIO, aCons, aNil, frzs, frz, derefs, deref, sBlt, sDrop, sAsg, sAsgs, unl, unls, rN, rGo, sIfS, sNx, bnd, finE, tyName, isiN, cd_T, cd_F, cd_if, small, rngOk, mulOk, same_refl, e0]
noncomputable def gI (cs : List Int) : Nat := match F_g_by [C cs] with
  | .ok (.v (.int M)) _ => M.toNat
  | _ => 0
theorem gI_is {cs : List Int} (hc : Cts cs) : IsG (fal cs) (gI cs) ∧ F_g_by [C cs] = .ok (.v (.int (gI cs))) [.no] := by
  obtain ⟨M, h1, h2⟩ := g_ex hc
  have e : gI cs = M := by unfold gI; rw [h2]; rfl
  rw [e]; exact ⟨h1, h2⟩
theorem v_g_of {cs : List Int} (h : Cts cs) : F_g_of [C cs] = .ok (.v (.int (gI cs))) [.no] := by
  simp [F_g_of, g_g_of, sFun, sSeq, sRet, sRetN, sAnd, sOr, sNot, sIf, sIsi, sVar, sLit, sBin, sUn, ap2, ap1, apC, sOfT, tOfS, tCmp', tChn, tAnd', tOr', tNot', sCall, callV, sCallIO, callIO, aCons, aNil, frzs, frz, derefs, deref, sBlt, sDrop, sAsg, sAsgs, unl, unls, rN, rGo, sIfS, sNx, bnd, finE, tyName, isiN, cd_T, cd_F, cd_if, small, rngOk, mulOk, same_refl, v_check_counts h, (gI_is h).2]
theorem v_least {h : Int} (h0 : 0 ≤ h) (h1 : h ≤ 200) : F_least_counts [.val (.int h)] = .ok (.f (.lst ((List.replicate h.toNat h).map D.int))) [.no] := by
  have e : dMul (.lst [.int h]) (.int h) = some (.f (.lst ((List.replicate h.toNat h).map D.int))) := by
    unfold dMul
    simp only
    rw [if_pos (cd_true ⟨⟨by omega, by omega⟩, by simp; omega⟩)]
    have : (List.replicate h.toNat [D.int h]).flatten = (List.replicate h.toNat h).map D.int := by
      generalize h.toNat = n
      induction n with
      | zero => rfl
      | succ n ih => rw [List.replicate_succ, List.replicate_succ, List.flatten_cons, ih]; rfl
    rw [this]
  simp [F_least_counts, g_least_counts, sFun, sSeq, sRet, sRetN, sAnd, sOr, sNot, sIf, sIsi, sVar, sLit, sBin, sUn, ap2, ap1, apC, sOfT, tOfS, tCmp', tChn, tAnd', tOr', tNot', sCall, callV, sCallIO, callIO, aCons, aNil, frzs, frz, derefs, deref, sBlt, sDrop, sAsg, sAsgs, unl, unls, rN, rGo, sIfS, sNx, bnd, finE, tyName, isiN, cd_T, cd_F, cd_if, small, rngOk, mulOk, same_refl, v_is_within h0 h1, v_check, sLst, e]
end L2.DL.W

namespace L2.DL.W
open PySem PySem.Spec PyProof.Rows L2 L2.DL L2.DL.Q
/-! ### pairs of a number and its place, the greatest first -/
def prs (k : Int) : List Int → List (Int × Int)
  | [] => []
  | x :: r => (x, k) :: prs (k + 1) r
def pG (p : Int × Int) : D := .tup [.int (-p.1), .int p.2]
def pY (p : Int × Int) : PyData := .tuple [.int (-p.1), .int p.2]
def lp (a b : Int × Int) : Bool := decide (¬ (-b.1 < -a.1 ∨ (-b.1 = -a.1 ∧ b.2 < a.2)))
theorem lp_total : PySem.W.TotalLe lp := ⟨fun a b c h1 h2 => by simp only [lp, decide_eq_true_eq] at *; omega, fun a b => by simp only [lp, decide_eq_true_eq]; omega⟩
theorem prs_fst : ∀ {l : List Int} {k : Int}, (prs k l).map Prod.fst = l
  | [], _ => rfl
  | x :: r, k => by unfold prs; rw [List.map_cons, prs_fst]
theorem prs_len {l : List Int} {k : Int} : (prs k l).length = l.length := by
  have := congrArg List.length (prs_fst (l := l) (k := k)); simpa using this
theorem prs_get : ∀ {l : List Int} {k : Int} {i : Nat} {p : Int × Int}, (prs k l)[i]? = some p → p.2 = k + i ∧ l[i]? = some p.1
  | [], _, i, p, h => by simp [prs] at h
  | x :: r, k, 0, p, h => by simp [prs] at h; subst h; simp
  | x :: r, k, i + 1, p, h => by
    obtain ⟨h1, h2⟩ := prs_get (l := r) (k := k + 1) (i := i) (p := p) (by simpa [prs] using h)
    exact ⟨by omega, by simpa using h2⟩
theorem prs_nodup {l : List Int} {k : Int} : (prs k l).Nodup := by
  rw [List.nodup_iff_pairwise_ne, List.pairwise_iff_getElem]
  intro i j hi hj hij e
  have h1 := prs_get (List.getElem?_eq_getElem hi)
  have h2 := prs_get (List.getElem?_eq_getElem hj)
  rw [e] at h1
  omega
theorem enumI_prs : ∀ {l : List Int} {k : Int}, enumI (fun _ _ => true) (fun k x => D.tup [.int (-x), .int k]) k l = (prs k l).map pG
  | [], _ => rfl
  | x :: r, k => by
    unfold enumI prs
    rw [if_pos rfl, enumI_prs]; rfl
theorem pyL_pG : ∀ l : List (Int × Int), pyL (l.map pG) = some (l.map pY)
  | [] => by simp [pyL]
  | p :: l => by simp [pyL, pG, pY, D.py, pyL_pG l]
theorem leD_pG (a b : Int × Int) : leD (pG a) (pG b) = lp a b := by
  have e : ∀ p, enc (pG p) = pY p := fun p => by simp [enc, pG, pY, D.py, pyL]
  show (!PySem.W.dataLt (enc (pG b)) (enc (pG a))) = _
  rw [e, e]
  unfold pY lp
  rw [PySem.W.dataLt_ii, decide_not]
theorem sort_pG (l : List (Int × Int)) (h : l.length ≤ 1000) : dSorted [.lst (l.map pG)] = some (.f (.lst ((isort lp l).map pG))) := by
  have e : sortable (l.map pG) = true := by
    unfold sortable
    rw [pyL_pG, Bool.or_eq_true]
    right
    unfold sortOk
    rw [Bool.and_eq_true, Bool.and_eq_true, Bool.or_eq_true]
    refine ⟨⟨?_, .inl ?_⟩, ?_⟩
    · simp [pY, PySem.W.alike, PySem.W.alikeAll]
    · simp [pY, oneTup]
    · simp [pY, shallow, PyData.depth, PyData.depthAll]
  have hz : small (l.map pG).length = true := cd_true (by simp; omega)
  show (if (sortable (l.map pG) && small (l.map pG).length) = true then some (Rv.f (.lst (isort leD (l.map pG)))) else none) = _
  rw [e, hz, Bool.and_self, if_pos rfl, isort_map leD_pG]
theorem srt_fst (cs : List Int) : (isort lp (prs 0 cs)).map Prod.fst = fal cs := by
  refine desc_eq ?_ (fal_desc _) ?_
  · unfold Desc
    rw [List.pairwise_map]
    exact (isort_pw lp_total _).imp fun h => by simp only [lp, decide_eq_true_eq] at h; omega
  · have := (isort_perm (le := lp) (prs 0 cs)).map Prod.fst
    rw [prs_fst] at this
    exact this.trans (fal_perm cs).symm
def mx (M : Nat) (x : Int) : Int := if (M : Int) > x then (M : Int) else x
def fnd (cs : List Int) (M k : Nat) : List Int := (prs 0 cs).map fun p => if p ∈ (isort lp (prs 0 cs)).take k then mx M p.1 else p.1
theorem fnd_len {cs : List Int} {M k : Nat} : (fnd cs M k).length = cs.length := by unfold fnd; rw [List.length_map, prs_len]
theorem fnd_zero {cs : List Int} {M : Nat} : fnd cs M 0 = cs := by
  unfold fnd
  simp [prs_fst]
theorem fnd_get {cs : List Int} {M k i : Nat} {c : Int} (h : cs[i]? = some c) : ∃ f, (fnd cs M k)[i]? = some f ∧ c ≤ f ∧ (f = c ∨ f = M) := by
  have hi : i < (prs 0 cs).length := by rw [prs_len]; exact (List.getElem?_eq_some_iff.mp h).1
  have h1 := prs_get (List.getElem?_eq_getElem hi)
  rw [h] at h1
  have e : (prs 0 cs)[i].1 = c := (Option.some.inj h1.2).symm
  refine ⟨_, by unfold fnd; rw [List.getElem?_map, List.getElem?_eq_getElem hi]; rfl, ?_⟩
  dsimp only
  rw [e]
  unfold mx
  split
  · split
    · exact ⟨by omega, .inr rfl⟩
    · exact ⟨by omega, .inl rfl⟩
  · exact ⟨by omega, .inl rfl⟩
theorem fnd_step {cs : List Int} {M k : Nat} {p : Int × Int} (h : (isort lp (prs 0 cs))[k]? = some p) : ∃ (i : Nat) (f : Int), p.2 = i ∧ (fnd cs M k)[i]? = some f ∧ (fnd cs M k).set i (mx M f) = fnd cs M (k + 1) := by
  have hp : p ∈ prs 0 cs := (isort_perm _).subset (List.mem_of_getElem? h)
  obtain ⟨i, hi, e⟩ := List.getElem_of_mem hp
  have g := List.getElem?_eq_getElem hi
  rw [e] at g
  have h1 := prs_get g
  have ef : (fnd cs M k)[i]? = some (if p ∈ (isort lp (prs 0 cs)).take k then mx M p.1 else p.1) := by
    unfold fnd; rw [List.getElem?_map, g]; rfl
  refine ⟨i, _, by omega, ef, ?_⟩
  have mem : ∀ q, q ∈ (isort lp (prs 0 cs)).take (k + 1) ↔ q ∈ (isort lp (prs 0 cs)).take k ∨ q = p := fun q => by
    rw [List.take_add_one, h, List.mem_append]; simp
  apply List.ext_getElem?
  intro j
  by_cases hij : i = j
  · subst hij
    rw [List.getElem?_set_self (by rw [fnd_len, ← prs_len (l := cs) (k := 0)]; exact hi)]
    unfold fnd
    rw [List.getElem?_map, g]
    show some _ = some (if p ∈ _ then _ else _)
    rw [if_pos ((mem p).mpr (.inr rfl))]
    congr 1
    unfold mx
    split <;> split <;> (try rfl) <;> (try split) <;> omega
  · rw [List.getElem?_set_ne hij]
    unfold fnd
    rw [List.getElem?_map, List.getElem?_map]
    cases q : (prs 0 cs)[j]? with
    | none => rfl
    | some r =>
      show some (if r ∈ _ then _ else _) = some (if r ∈ _ then _ else _)
      have ne : r ≠ p := fun z => by
        have := prs_get q
        rw [z] at this
        omega
      by_cases w : r ∈ (isort lp (prs 0 cs)).take k
      · rw [if_pos w, if_pos ((mem r).mpr (.inl w))]
      · rw [if_neg w, if_neg fun z => ((mem r).mp z).elim w ne]
theorem fnd_best {cs : List Int} {M : Nat} : (fnd cs M M).Perm (best cs M) := by
  have h1 := ((isort_perm (le := lp) (prs 0 cs)).symm.map fun p => if p ∈ (isort lp (prs 0 cs)).take M then mx M p.1 else p.1)
  have nd : (isort lp (prs 0 cs)).Nodup := (isort_perm (le := lp) (prs 0 cs)).nodup_iff.mpr prs_nodup
  refine h1.trans (List.Perm.of_eq ?_)
  have sp : (isort lp (prs 0 cs)) = (isort lp (prs 0 cs)).take M ++ (isort lp (prs 0 cs)).drop M := (List.take_append_drop _ _).symm
  unfold best
  rw [← srt_fst, ← List.map_take, ← List.map_drop, List.map_map]
  generalize isort lp (prs 0 cs) = S at nd sp
  have e1 : S.map (fun p => if p ∈ S.take M then mx M p.1 else p.1) = (S.take M).map (fun p => if p ∈ S.take M then mx M p.1 else p.1) ++ (S.drop M).map (fun p => if p ∈ S.take M then mx M p.1 else p.1) := by
    rw [← List.map_append, ← sp]
  rw [e1]
  congr 1
  · exact List.map_congr_left fun p hp => by rw [if_pos hp]; rfl
  · refine List.map_congr_left fun p hp => ?_
    rw [if_neg]
    intro z
    rw [sp] at nd
    exact (List.nodup_append.mp nd).2.2 p z p hp rfl
theorem ixN_nat {n j : Nat} (hj : j < n) : ixN n (j : Int) = some j := by
  unfold ixN
  rw [if_pos (by omega), if_pos (by omega)]
  simp
theorem put_ex {cs : List Int} {more : Int} (hc : Cts cs) (hm : 0 ≤ more) : F_best_putting [C cs, .val (.int more)] = .ok (.f (.lst ((fnd cs (mI cs more) (mI cs more)).map D.int))) [.no, .no] := by
  have h1 := hc.len
  obtain ⟨hM, vM⟩ := mI_is hc hm
  generalize mI cs more = M at hM vM
  have hMl := hM.le
  let ρ0 : DEnv := [C cs, .val (.int more), .val (.int M), .own (.lst (cs.map D.int)), .no, .no, .no]
  have e := sLc_enum (it := iEnumD (sVar 0)) (src := none) (ρ := ρ0) (ρ1 := ρ0) (ns := cs) (tg := gT [gN 5, gN 6]) (tt := tYesD) (te := sTup (aCons (sUn dNeg (sVar 6)) (aCons (sVar 5) aNil))) (vs := [5, 6])
    (fun _ _ => true) (fun k x => D.tup [.int (-x), .int k]) (by simp [ρ0, iEnumD, sFun, sSeq, sRet, sRetN, sAnd, sOr, sNot, sIf, sIsi, sVar, sLit, sBin, sUn, ap2, ap1, apC, sOfT, tOfS, tCmp', tChn, tAnd', tOr', tNot', sCall, callV, sCallIO, callIO, aCons, aNil, frzs, frz, derefs, deref, sBlt, sDrop, sAsg, sAsgs, unl, unls, rN, rGo, sIfS, sNx, bnd, finE, tyName, isiN, cd_T, cd_F, cd_if, small, rngOk, mulOk, same_refl, walkL]) rfl
    (fun k x _ => by simp [ρ0, cstep, gT, gGo, gN, nox, tYesD, wipeE, sTup, sFun, sSeq, sRet, sRetN, sAnd, sOr, sNot, sIf, sIsi, sVar, sLit, sBin, sUn, ap2, ap1, apC, sOfT, tOfS, tCmp', tChn, tAnd', tOr', tNot', sCall, callV, sCallIO, callIO, aCons, aNil, frzs, frz, derefs, deref, sBlt, sDrop, sAsg, sAsgs, unl, unls, rN, rGo, sIfS, sNx, bnd, finE, tyName, isiN, cd_T, cd_F, cd_if, small, rngOk, mulOk, same_refl, dNeg]) (by omega)
  rw [enumI_prs] at e
  have es := sort_pG (prs 0 cs) (by rw [prs_len]; omega)
  have hSl : (isort lp (prs 0 cs)).length = cs.length := by rw [(isort_perm _).length_eq, prs_len]
  have sl : dSl (.lst ((isort lp (prs 0 cs)).map pG)) none (some (M : Int)) = some (.f (.lst (((isort lp (prs 0 cs)).take M).map pG))) := by
    show some (Rv.f (.lst (cutL _ none (some (M : Int))))) = _
    rw [cut_none _ _ (by omega), List.map_take]; rfl
  have hi : iAny (sSl (sBlt dSorted (aCons (sLc (iEnumD (sVar 0)) (gT [gN 5, gN 6]) tYesD (sTup (aCons (sUn dNeg (sVar 6)) (aCons (sVar 5) aNil))) [5, 6]) aNil)) (pPart none) (pPart (some (sVar 2)))) ρ0 = .ok (((isort lp (prs 0 cs)).take M).map pG, none) ρ0 := by
    generalize isort lp (prs 0 cs) = S at es sl
    generalize prs 0 cs = P at e es
    have e' := e
    simp only [ρ0] at e' ⊢
    simp [iAny, sSl, pPart, sFun, sSeq, sRet, sRetN, sAnd, sOr, sNot, sIf, sIsi, sVar, sLit, sBin, sUn, ap2, ap1, apC, sOfT, tOfS, tCmp', tChn, tAnd', tOr', tNot', sCall, callV, sCallIO, callIO, aCons, aNil, frzs, frz, derefs, deref, sBlt, sDrop, sAsg, sAsgs, unl, unls, rN, rGo, sIfS, sNx, bnd, finE, tyName, isiN, cd_T, cd_F, cd_if, small, rngOk, mulOk, same_refl, e', es, sl, walk, walkL]
  have key := forGo_inv (src := none) (tg := gT [gN 4, gN 5]) (body := sAsg (rSub 3 (sVar 5) upLst) (sBlt dMax (aCons (sBin dIx (sVar 3) (sVar 5)) (aCons (sVar 2) aNil))))
    (P := fun k ρ => ∃ a b : Cell, ρ = [C cs, .val (.int more), .val (.int M), .own (.lst ((fnd cs M k).map D.int)), a, b, .no]) (l := ((isort lp (prs 0 cs)).take M).map pG) (k := 0) (ρ := ρ0)
    (fun _ _ _ => rfl) (fun i d ρ hd hp => by
      obtain ⟨a, b, rfl⟩ := hp
      rw [List.getElem?_map, List.getElem?_take] at hd
      split at hd
      · cases hq : (isort lp (prs 0 cs))[i]? with
        | none => rw [hq] at hd; cases hd
        | some p =>
          rw [hq] at hd; cases hd
          obtain ⟨j, f, p1, p2, p3⟩ := fnd_step (M := M) hq
          have hj : j < (fnd cs M i).length := (List.getElem?_eq_some_iff.mp p2).1
          have ix : dIx (.lst ((fnd cs M i).map D.int)) (.int (j : Int)) = some (.v (.int f)) := by
            show (atI _ _).map Rv.v = _
            rw [atI_nat (v := D.int f) (by rw [List.getElem?_map, p2]; rfl)]; rfl
          have up : upLst (.lst ((fnd cs M i).map D.int)) (.int (j : Int)) (.int (if (M : Int) > f then (M : Int) else f)) = some (.lst ((fnd cs M (i + 1)).map D.int)) := by
            show (match ixN ((fnd cs M i).map D.int).length (j : Int) with | some j => some (D.lst (((fnd cs M i).map D.int).set j (.int (if (M : Int) > f then (M : Int) else f)))) | none => none) = _
            rw [ixN_nat (by rw [List.length_map]; exact hj)]
            show some (D.lst (((fnd cs M i).map D.int).set j (.int (mx M f)))) = _
            rw [← p3, List.map_set]
          refine ⟨.nx, [C cs, .val (.int more), .val (.int M), .own (.lst ((fnd cs M (i + 1)).map D.int)), .val (.int (-p.1)), .val (.int (j : Int)), .no], ?_, .inl rfl, _, _, by rw [Nat.zero_add]⟩
          simp only [Nat.zero_add]
          generalize fnd cs M i = F0 at ix up
          generalize fnd cs M (i + 1) = F1 at up
          simp [gT, gGo, gN, pG, p1, rSub, sFun, sSeq, sRet, sRetN, sAnd, sOr, sNot, sIf, sIsi, sVar, sLit, sBin, sUn, ap2, ap1, apC, sOfT, tOfS, tCmp', tChn, tAnd', tOr', tNot', sCall, callV, sCallIO, callIO, aCons, aNil, frzs, frz, derefs, deref, sBlt, sDrop, sAsg, sAsgs, unl, unls, rN, rGo, sIfS, sNx, bnd, finE, tyName, isiN, cd_T, cd_F, cd_if, small, rngOk, mulOk, same_refl, ix, dMax_ii, up]
      · cases hd) ⟨_, _, by rw [fnd_zero]⟩
  obtain ⟨ρ', ef, a, b, rfl⟩ := key
  rw [List.length_map, List.length_take, hSl, Nat.min_eq_left hMl, Nat.zero_add] at ef
  have e0 := sFor_go (fxL := fxs []) hi ef
  simp only [ρ0] at e0
  generalize fnd cs M M = F0 at e0
  simp [F_best_putting, g_best_putting, sFun, sSeq, sRet, sRetN, sAnd, sOr, sNot, sIf, sIsi, sVar, sLit, sBin, sUn, ap2, ap1, apC, sOfT, tOfS, tCmp', tChn, tAnd', tOr', tNot', sCall, callV, sCallIO, callIO, aCons, aNil, frzs, frz, derefs, deref, sBlt, sDrop, sAsg, sAsgs, unl, unls, rN, rGo, sIfS, sNx, bnd, finE, tyName, isiN, cd_T, cd_F, cd_if, small, rngOk, mulOk, same_refl, v_check_counts hc, v_is_count hm, v_check, vM, dList, e0, fxs]
end L2.DL.W

namespace L2.DL.W
open PySem PySem.Spec PyProof.Rows L2 L2.DL L2.DL.Q
/-! ### means -/
theorem shared_ex (a b : Nat) (hb : b < 1000000000000) : F_shared [.val (.int a), .val (.int b)] = .ok (.v (.int (Nat.gcd a b))) [.no, .no] := by
  have key := whGo_inv (t := tCmp' dGt (sVar 1) (sLit (.int 0))) (body := sAsgs [rN 0, rN 1] (aCons (sVar 1) (aCons (sBin dMod (sVar 0) (sVar 1)) aNil))) (n := fuel)
    (P := fun m ρ => ∃ x y : Nat, ρ = [.val (.int x), .val (.int y)] ∧ Nat.gcd x y = Nat.gcd a b ∧ m = y)
    (fun m ρ ⟨x, y, e, g1, g2⟩ => by
      subst e
      subst g2
      cases m with
      | zero => exact .inl ⟨[.val (.int x), .val (.int (0 : Nat))], by simp [sFun, sSeq, sRet, sRetN, sAnd, sOr, sNot, sIf, sIsi, sVar, sLit, sBin, sUn, ap2, ap1, apC, sOfT, tOfS, tCmp', tChn, tAnd', tOr', tNot', sCall, callV, sCallIO, callIO, aCons, aNil, frzs, frz, derefs, deref, sBlt, sDrop, sAsg, sAsgs, unl, unls, rN, rGo, sIfS, sNx, bnd, finE, tyName, isiN, cd_T, cd_F, cd_if, small, rngOk, mulOk, same_refl, dGt], x, 0, rfl, g1, rfl⟩
      | succ n =>
        refine .inr ⟨[.val (.int x), .val (.int ((n + 1 : Nat) : Int))], .nx, [.val (.int ((n + 1 : Nat) : Int)), .val (.int ((x % (n + 1) : Nat) : Int))], x % (n + 1), ?_, ?_, .inl rfl, Nat.mod_lt _ (by omega), n + 1, x % (n + 1), rfl, ?_, rfl⟩
        · have q : (0 : Int) < ((n + 1 : Nat) : Int) := by omega
          generalize ((n + 1 : Nat) : Int) = z at q
          simp [sFun, sSeq, sRet, sRetN, sAnd, sOr, sNot, sIf, sIsi, sVar, sLit, sBin, sUn, ap2, ap1, apC, sOfT, tOfS, tCmp', tChn, tAnd', tOr', tNot', sCall, callV, sCallIO, callIO, aCons, aNil, frzs, frz, derefs, deref, sBlt, sDrop, sAsg, sAsgs, unl, unls, rN, rGo, sIfS, sNx, bnd, finE, tyName, isiN, cd_T, cd_F, cd_if, small, rngOk, mulOk, same_refl, dGt, q]
        · have q : (0 : Int) < ((n + 1 : Nat) : Int) := by omega
          have q2 : ((x % (n + 1) : Nat) : Int) = (x : Int) % ((n + 1 : Nat) : Int) := by simp
          rw [q2]
          generalize ((n + 1 : Nat) : Int) = z at q
          simp [sFun, sSeq, sRet, sRetN, sAnd, sOr, sNot, sIf, sIsi, sVar, sLit, sBin, sUn, ap2, ap1, apC, sOfT, tOfS, tCmp', tChn, tAnd', tOr', tNot', sCall, callV, sCallIO, callIO, aCons, aNil, frzs, frz, derefs, deref, sBlt, sDrop, sAsg, sAsgs, unl, unls, rN, rGo, sIfS, sNx, bnd, finE, tyName, isiN, cd_T, cd_F, cd_if, small, rngOk, mulOk, same_refl, dMod, q]
        · rw [← g1, Nat.gcd_comm x (n + 1), Nat.gcd_comm (n + 1) (x % (n + 1)), ← Nat.gcd_rec])
    (m := b) (ρ := [.val (.int a), .val (.int b)]) ⟨a, b, rfl, rfl, rfl⟩ (by have := fuel_big; omega)
  obtain ⟨ρ', e, x, y, rfl, g1, g2⟩ := key
  have hy : y = 0 := g2.symm
  subst hy
  rw [Nat.gcd_zero_right] at g1
  subst g1
  have ha : ∀ n : Nat, dAbs [.int (n : Int)] = some (.v (.int n)) := fun n => by
    show some (Rv.v (.int (if cd ((n : Int) < 0) = true then -(n : Int) else n))) = _
    rw [cd_if, if_neg (by omega)]
  simp [F_shared, g_shared, sFun, sSeq, sRet, sRetN, sAnd, sOr, sNot, sIf, sIsi, sVar, sLit, sBin, sUn, ap2, ap1, apC, sOfT, tOfS, tCmp', tChn, tAnd', tOr', tNot', sCall, callV, sCallIO, callIO, aCons, aNil, frzs, frz, derefs, deref, sBlt, sDrop, sAsg, sAsgs, unl, unls, rN, rGo, sIfS, sNx, bnd, finE, tyName, isiN, cd_T, cd_F, cd_if, small, rngOk, mulOk, same_refl, ha, e]
theorem dDiv_ok {i j : Int} (h : 0 < j) (h2 : j < 1073741824) : dDiv (.int i) (.int j) = some (.v (.int (i / j))) := by
  show (if cd (0 < j ∧ j < 1073741824) = true then _ else _) = _
  rw [if_pos (cd_true ⟨h, h2⟩)]
theorem v_ratio {a b : Nat} (hb : 0 < b) (hb2 : b ≤ 1000) : F_ratio [.val (.int a), .val (.int b)] = .ok (.v (.tup [.int ((a : Int) / (Nat.gcd a b : Nat)), .int ((b : Int) / (Nat.gcd a b : Nat))])) [.no, .no] := by
  have h1 := shared_ex a b (by omega)
  have hg : 0 < Nat.gcd a b := Nat.gcd_pos_of_pos_right a hb
  have hg2 : Nat.gcd a b ≤ b := Nat.gcd_le_right a hb
  have d1 := dDiv_ok (i := a) (j := (Nat.gcd a b : Nat)) (by omega) (by omega)
  have d2 := dDiv_ok (i := b) (j := (Nat.gcd a b : Nat)) (by omega) (by omega)
  generalize ((Nat.gcd a b : Nat) : Int) = g at h1 d1 d2
  simp [F_ratio, g_ratio, sFun, sSeq, sRet, sRetN, sAnd, sOr, sNot, sIf, sIsi, sVar, sLit, sBin, sUn, ap2, ap1, apC, sOfT, tOfS, tCmp', tChn, tAnd', tOr', tNot', sCall, callV, sCallIO, callIO, aCons, aNil, frzs, frz, derefs, deref, sBlt, sDrop, sAsg, sAsgs, unl, unls, rN, rGo, sIfS, sNx, bnd, finE, tyName, isiN, cd_T, cd_F, cd_if, small, rngOk, mulOk, same_refl, h1, d1, d2, sTup]
theorem mean_ex {cs : List Int} (hc : Cts cs) (h0 : cs ≠ []) : ∃ n d : Int, F_mean_of [C cs] = .ok (.v (.tup [.int n, .int d])) [.no] ∧ n * cs.length = d * cs.sum := by
  have h1 := hc.len
  have hl : 0 < cs.length := List.length_pos_iff.mpr h0
  have hs : 0 ≤ cs.sum := sum_nn hc.nn
  obtain ⟨s, es⟩ := Int.eq_ofNat_of_zero_le hs
  have r := v_ratio (a := s) (b := cs.length) hl (by omega)
  have q : ¬ ((cs.length : Int) = 0) := by omega
  refine ⟨(s : Int) / (Nat.gcd s cs.length : Nat), (cs.length : Int) / (Nat.gcd s cs.length : Nat), ?_, ?_⟩
  · generalize (s : Int) / (Nat.gcd s cs.length : Nat) = n at r
    generalize (cs.length : Int) / (Nat.gcd s cs.length : Nat) = d at r
    simp [F_mean_of, g_mean_of, sFun, sSeq, sRet, sRetN, sAnd, sOr, sNot, sIf, sIsi, sVar, sLit, sBin, sUn, ap2, ap1, apC, sOfT, tOfS, tCmp', tChn, tAnd', tOr', tNot', sCall, callV, sCallIO, callIO, aCons, aNil, frzs, frz, derefs, deref, sBlt, sDrop, sAsg, sAsgs, unl, unls, rN, rGo, sIfS, sNx, bnd, finE, tyName, isiN, cd_T, cd_F, cd_if, small, rngOk, mulOk, same_refl, v_check_counts hc, dLen, dEq_int, q, dSum_ints, h0, es, r]
  · rw [es]
    have g1 : (Nat.gcd s cs.length) ∣ s := Nat.gcd_dvd_left _ _
    have g2 : (Nat.gcd s cs.length) ∣ cs.length := Nat.gcd_dvd_right _ _
    have hg : 0 < Nat.gcd s cs.length := Nat.gcd_pos_of_pos_right s hl
    obtain ⟨u, hu⟩ := g1
    obtain ⟨v, hv⟩ := g2
    generalize Nat.gcd s cs.length = g at hu hv hg
    rw [hv, hu]
    simp only [Int.natCast_mul]
    rw [Int.mul_ediv_cancel_left _ (by omega), Int.mul_ediv_cancel_left _ (by omega)]
    rw [Int.mul_comm (u : Int), Int.mul_comm (v : Int), Int.mul_assoc, Int.mul_assoc, Int.mul_comm (u : Int)]
/-! ### the middle -/
theorem middle_ex {cs : List Int} (hc : Cts cs) (h0 : cs ≠ []) : ∃ x : Int, F_middle_of [C cs] = .ok (.v (.int x)) [.no] ∧ 0 ≤ x ∧ cs.length ≤ 2 * Q.cnt x cs ∧ 2 * Q.cnt (x + 1) cs ≤ cs.length := by
  have h1 := hc.len
  have hl : 0 < cs.length := List.length_pos_iff.mpr h0
  have hs := srt_len cs
  have hi : (cs.length - 1) / 2 < (srt cs).length := by omega
  have e := List.getElem?_eq_getElem hi
  generalize hx : (srt cs)[(cs.length - 1) / 2] = x at e
  have q : ¬ ((cs.length : Int) = 0) := by omega
  have dd := dDiv_ok (i := (cs.length : Int) - 1) (j := 2) (by omega) (by omega)
  have ix : dIx (.lst ((srt cs).map D.int)) (.int (((cs.length : Int) - 1) / 2)) = some (.v (.int x)) := by
    rw [show ((cs.length : Int) - 1) / 2 = (((cs.length - 1) / 2 : Nat) : Int) by omega]
    show (atI _ _).map Rv.v = _
    rw [atI_nat (v := D.int x) (by rw [List.getElem?_map, e]; rfl)]; rfl
  refine ⟨x, ?_, ?_, middle h0 e⟩
  · have ds := dSorted_ints cs (by omega)
    generalize srt cs = sc at ds ix
    simp [F_middle_of, g_middle_of, sFun, sSeq, sRet, sRetN, sAnd, sOr, sNot, sIf, sIsi, sVar, sLit, sBin, sUn, ap2, ap1, apC, sOfT, tOfS, tCmp', tChn, tAnd', tOr', tNot', sCall, callV, sCallIO, callIO, aCons, aNil, frzs, frz, derefs, deref, sBlt, sDrop, sAsg, sAsgs, unl, unls, rN, rGo, sIfS, sNx, bnd, finE, tyName, isiN, cd_T, cd_F, cd_if, small, rngOk, mulOk, same_refl, v_check_counts hc, dLen, dEq_int, q, h0, ds, dSub, dd, ix]
  · exact hc.nn x ((srt_perm cs).subset (List.mem_of_getElem? e))
/-! ### ranks -/
def wL (cs : List Int) (g : Nat) : List Int := [(hI cs : Int), (g : Int), cs.sum]
noncomputable def wt (cs : List Int) : List Int := wL cs (gI cs)
noncomputable def wD (cs : List Int) : D := .tup ((wt cs).map D.int)
theorem dGt_w (a b : List Int) : dGt (wD a) (wD b) = some (decide (wt b < wt a)) := by
  unfold wD
  show ordP (fun p q => PySem.W.dataLt q p) (.tup ((wt a).map D.int)) (.tup ((wt b).map D.int)) = _
  have e : ∀ l : List Int, (D.tup (l.map D.int)).py = some (.tuple (l.map PyData.int)) := fun l => by simp [D.py, pyL_ints]
  unfold ordP
  rw [e, e]
  dsimp only
  have h1 : PySem.W.alike (.tuple ((wt a).map PyData.int)) (.tuple ((wt b).map PyData.int)) = true := by simp [wt, wL, PySem.W.alike, PySem.W.alikeAll]
  have h2 : shallow (.tuple ((wt a).map PyData.int)) = true := by simp [wt, wL, shallow, PyData.depth, PyData.depthAll]
  rw [h1, h2]
  show some (PySem.W.dataLt (.tuple ((wt b).map PyData.int)) (.tuple ((wt a).map PyData.int))) = _
  rw [PySem.W.dataLt_tuple]
  exact congrArg some (PySem.W.dataLt_ints (wt b) (wt a))
theorem ex_max : ∀ (l : List (List Int)), l ≠ [] → ∃ m ∈ l, ∀ o ∈ l, ¬ m < o
  | [], h => absurd rfl h
  | [x], _ => ⟨x, List.mem_cons_self, fun o ho => by rw [List.mem_singleton] at ho; subst ho; exact List.lt_irrefl _⟩
  | x :: y :: l, _ => by
    obtain ⟨m, h1, h2⟩ := ex_max (y :: l) (by simp)
    by_cases q : m < x
    · refine ⟨x, List.mem_cons_self, fun o ho z => ?_⟩
      rcases List.mem_cons.mp ho with r | r
      · subst r; exact List.lt_irrefl _ z
      · exact h2 o r (List.lt_trans q z)
    · exact ⟨m, List.mem_cons_of_mem _ h1, fun o ho => by
        rcases List.mem_cons.mp ho with r | r
        · subst r; exact q
        · exact h2 o r⟩
noncomputable def rk (rows : List (List Int)) (r : List Int) : Int := 1 + ((rows.filter fun o => decide (wt r < wt o)).length : Int)
abbrev L (cs : List Int) : D := .lst (cs.map D.int)
theorem v_ranks {rows : List (List Int)} (h : ∀ r ∈ rows, Cts r) (h1 : 1 ≤ rows.length) (h2 : rows.length ≤ 50) : F_ranks [.val (.lst (rows.map L))] = .ok (.f (.lst ((rows.map (rk rows)).map D.int))) [.no] := by
  have l1 : (1 : Int) ≤ (rows.length : Int) := by omega
  have l2 : (rows.length : Int) ≤ 50 := by omega
  have e0 := sLc_of (it := iAny (sVar 0)) (src := none) (ρ := [.val (.lst (rows.map L)), .no, .no, .no, .no]) (ρ1 := [.val (.lst (rows.map L)), .no, .no, .no, .no]) (l := rows) (tg := gN 2) (tt := tYesD) (te := sCall 1 F_are_counts (aCons (sVar 2) aNil)) (vs := [2])
    L (fun _ => true) (fun _ => .bl true) (by simp [iAny, sFun, sSeq, sRet, sRetN, sAnd, sOr, sNot, sIf, sIsi, sVar, sLit, sBin, sUn, ap2, ap1, apC, sOfT, tOfS, tCmp', tChn, tAnd', tOr', tNot', sCall, callV, sCallIO, callIO, aCons, aNil, frzs, frz, derefs, deref, sBlt, sDrop, sAsg, sAsgs, unl, unls, rN, rGo, sIfS, sNx, bnd, finE, tyName, isiN, cd_T, cd_F, cd_if, small, rngOk, mulOk, same_refl, walk, walkL]) rfl
    (fun r hr => by simp [cstep, gN, nox, tYesD, wipeE, sFun, sSeq, sRet, sRetN, sAnd, sOr, sNot, sIf, sIsi, sVar, sLit, sBin, sUn, ap2, ap1, apC, sOfT, tOfS, tCmp', tChn, tAnd', tOr', tNot', sCall, callV, sCallIO, callIO, aCons, aNil, frzs, frz, derefs, deref, sBlt, sDrop, sAsg, sAsgs, unl, unls, rN, rGo, sIfS, sNx, bnd, finE, tyName, isiN, cd_T, cd_F, cd_if, small, rngOk, mulOk, same_refl, v_are_counts (h r hr)]) (by omega)
  rw [List.filter_eq_self.mpr fun _ _ => rfl] at e0
  have a0 : dAll [.lst (rows.map fun _ => D.bl true)] = some (.v (.bl true)) := by
    have e : (rows.map fun _ => D.bl true) = (rows.map fun _ => true).map D.bl := by simp
    have q := blsOf_map (rows.map fun _ => true)
    rw [← e] at q
    show (match blsOf (rows.map fun _ => D.bl true) with | some bs => some (Rv.v (.bl (bs.all id))) | none => none) = _
    rw [q]
    simp
  have e1 := sLc_of (it := iAny (sVar 0)) (src := none) (ρ := [.val (.lst (rows.map L)), .no, .no, .no, .no]) (ρ1 := [.val (.lst (rows.map L)), .no, .no, .no, .no]) (l := rows) (tg := gN 2) (tt := tYesD) (te := sTup (aCons (sCall 1 F_h_by (aCons (sVar 2) aNil)) (aCons (sCall 1 F_g_by (aCons (sVar 2) aNil)) (aCons (sBlt dSum (aCons (sVar 2) aNil)) aNil)))) (vs := [2])
    L (fun _ => true) wD (by simp [iAny, sFun, sSeq, sRet, sRetN, sAnd, sOr, sNot, sIf, sIsi, sVar, sLit, sBin, sUn, ap2, ap1, apC, sOfT, tOfS, tCmp', tChn, tAnd', tOr', tNot', sCall, callV, sCallIO, callIO, aCons, aNil, frzs, frz, derefs, deref, sBlt, sDrop, sAsg, sAsgs, unl, unls, rN, rGo, sIfS, sNx, bnd, finE, tyName, isiN, cd_T, cd_F, cd_if, small, rngOk, mulOk, same_refl, walk, walkL]) rfl
    (fun r hr => by simp [cstep, gN, nox, tYesD, wipeE, sFun, sSeq, sRet, sRetN, sAnd, sOr, sNot, sIf, sIsi, sVar, sLit, sBin, sUn, ap2, ap1, apC, sOfT, tOfS, tCmp', tChn, tAnd', tOr', tNot', sCall, callV, sCallIO, callIO, aCons, aNil, frzs, frz, derefs, deref, sBlt, sDrop, sAsg, sAsgs, unl, unls, rN, rGo, sIfS, sNx, bnd, finE, tyName, isiN, cd_T, cd_F, cd_if, small, rngOk, mulOk, same_refl, v_h_by (h r hr), (gI_is (h r hr)).2, dSum_ints, sTup, wD, wt, wL]) (by omega)
  rw [List.filter_eq_self.mpr fun _ _ => rfl] at e1
  let ρ2 : DEnv := [.val (.lst (rows.map L)), .own (.lst (rows.map wD)), .no, .no, .no]
  have e2 : ∀ r ∈ rows, sLc (iAny (sVar 1)) (gN 4) (tCmp' dGt (sVar 4) (sVar 3)) (sLit (.int 1)) [4] [.val (.lst (rows.map L)), .own (.lst (rows.map wD)), .no, .val (wD r), .no] = .ok (.f (.lst ((rows.filter fun o => decide (wt r < wt o)).map fun _ => D.int 1))) [.val (.lst (rows.map L)), .own (.lst (rows.map wD)), .no, .val (wD r), .no] := fun r hr =>
    sLc_of (src := some (1, .lst (rows.map wD))) wD (fun o => decide (wt r < wt o)) (fun _ => .int 1) (by simp [iAny, sFun, sSeq, sRet, sRetN, sAnd, sOr, sNot, sIf, sIsi, sVar, sLit, sBin, sUn, ap2, ap1, apC, sOfT, tOfS, tCmp', tChn, tAnd', tOr', tNot', sCall, callV, sCallIO, callIO, aCons, aNil, frzs, frz, derefs, deref, sBlt, sDrop, sAsg, sAsgs, unl, unls, rN, rGo, sIfS, sNx, bnd, finE, tyName, isiN, cd_T, cd_F, cd_if, small, rngOk, mulOk, same_refl, walk, walkL]) (by simp [srcChk, wipeE, same_refl])
      (fun o ho => by by_cases q : wt r < wt o <;> simp [cstep, gN, nox, wipeE, sFun, sSeq, sRet, sRetN, sAnd, sOr, sNot, sIf, sIsi, sVar, sLit, sBin, sUn, ap2, ap1, apC, sOfT, tOfS, tCmp', tChn, tAnd', tOr', tNot', sCall, callV, sCallIO, callIO, aCons, aNil, frzs, frz, derefs, deref, sBlt, sDrop, sAsg, sAsgs, unl, unls, rN, rGo, sIfS, sNx, bnd, finE, tyName, isiN, cd_T, cd_F, cd_if, small, rngOk, mulOk, same_refl, dGt_w, q]) (by omega)
  have e3 := sLc_of (it := iAny (sVar 1)) (src := some (1, .lst (rows.map wD))) (ρ := [.val (.lst (rows.map L)), .own (.lst (rows.map wD)), .no, .no, .no]) (ρ1 := [.val (.lst (rows.map L)), .own (.lst (rows.map wD)), .no, .no, .no]) (l := rows) (tg := gN 3) (tt := tYesD)
    (te := sBin dAdd (sLit (.int 1)) (sBlt dLen (aCons (sLc (iAny (sVar 1)) (gN 4) (tCmp' dGt (sVar 4) (sVar 3)) (sLit (.int 1)) [4]) aNil))) (vs := [3])
    wD (fun _ => true) (fun r => .int (rk rows r)) (by simp [iAny, sFun, sSeq, sRet, sRetN, sAnd, sOr, sNot, sIf, sIsi, sVar, sLit, sBin, sUn, ap2, ap1, apC, sOfT, tOfS, tCmp', tChn, tAnd', tOr', tNot', sCall, callV, sCallIO, callIO, aCons, aNil, frzs, frz, derefs, deref, sBlt, sDrop, sAsg, sAsgs, unl, unls, rN, rGo, sIfS, sNx, bnd, finE, tyName, isiN, cd_T, cd_F, cd_if, small, rngOk, mulOk, same_refl, walk, walkL]) (by simp [srcChk, wipeE, same_refl])
    (fun r hr => by simp [cstep, gN, nox, tYesD, wipeE, sFun, sSeq, sRet, sRetN, sAnd, sOr, sNot, sIf, sIsi, sVar, sLit, sBin, sUn, ap2, ap1, apC, sOfT, tOfS, tCmp', tChn, tAnd', tOr', tNot', sCall, callV, sCallIO, callIO, aCons, aNil, frzs, frz, derefs, deref, sBlt, sDrop, sAsg, sAsgs, unl, unls, rN, rGo, sIfS, sNx, bnd, finE, tyName, isiN, cd_T, cd_F, cd_if, small, rngOk, mulOk, same_refl, e2 r hr, dLen, dAdd, rk]) (by omega)
  rw [List.filter_eq_self.mpr fun _ _ => rfl, show (rows.map fun r => D.int (rk rows r)) = (rows.map (rk rows)).map D.int by rw [List.map_map]; rfl] at e3
  generalize (rows.map (rk rows)).map D.int = T at e3 ⊢
  simp [F_ranks, g_ranks, sFun, sSeq, sRet, sRetN, sAnd, sOr, sNot, sIf, sIsi, sVar, sLit, sBin, sUn, ap2, ap1, apC, sOfT, tOfS, tCmp', tChn, tAnd', tOr', tNot', sCall, callV, sCallIO, callIO, aCons, aNil, frzs, frz, derefs, deref, sBlt, sDrop, sAsg, sAsgs, unl, unls, rN, rGo, sIfS, sNx, bnd, finE, tyName, isiN, cd_T, cd_F, cd_if, small, rngOk, mulOk, same_refl, e0, a0, e1, e3, dLen, dLe, l1, l2, v_check]
end L2.DL.W

namespace L2.DL.W
open PySem PySem.Spec PyProof.Rows L2 L2.DL L2.DL.Q
/-! ### draws -/
abbrev O (ds : List Int) : Cell := .own (.lst (ds.map D.int))
theorem take_ex (ds : List Int) {b : Int} (hb : 0 < b) : ∃ (n : Int) (ds' : List Int), F__law_take [O ds, .val (.int b)] = .ok (.v (.int n)) [O ds', .no] ∧ 0 ≤ n ∧ n < b := by
  by_cases h : ds = []
  · subst h
    exact ⟨0, [], by simp [F__law_take, g__law_take, sFun, sSeq, sRet, sRetN, sAnd, sOr, sNot, sIf, sIsi, sVar, sLit, sBin, sUn, ap2, ap1, apC, sOfT, tOfS, tCmp', tChn, tAnd', tOr', tNot', sCall, callV, sCallIO, callIO, aCons, aNil, frzs, frz, derefs, deref, sBlt, sDrop, sAsg, sAsgs, unl, unls, rN, rGo, sIfS, sNx, bnd, finE, tyName, isiN, cd_T, cd_F, cd_if, small, rngOk, mulOk, same_refl, dLen, dEq_int], Int.le_refl _, hb⟩
  · obtain ⟨ds', x, rfl⟩ : ∃ ds' x, ds = ds' ++ [x] := ⟨ds.dropLast, ds.getLast h, (List.dropLast_concat_getLast h).symm⟩
    refine ⟨x % b, ds', ?_, Int.emod_nonneg _ (by omega), Int.emod_lt_of_pos _ hb⟩
    have q : ¬ ((ds'.length : Int) + 1 = 0) := by omega
    simp [F__law_take, g__law_take, sFun, sSeq, sRet, sRetN, sAnd, sOr, sNot, sIf, sIsi, sVar, sLit, sBin, sUn, ap2, ap1, apC, sOfT, tOfS, tCmp', tChn, tAnd', tOr', tNot', sCall, callV, sCallIO, callIO, aCons, aNil, frzs, frz, derefs, deref, sBlt, sDrop, sAsg, sAsgs, unl, unls, rN, rGo, sIfS, sNx, bnd, finE, tyName, isiN, cd_T, cd_F, cd_if, small, rngOk, mulOk, same_refl, dLen, dEq_int, q, sPop, dInt, dMod, hb]
theorem pick_ex (ds xs : List Int) (h : xs ≠ []) : ∃ (x : Int) (ds' : List Int), F__law_pick [O ds, .val (.lst (xs.map D.int))] = .ok (.v (.int x)) [O ds', .no] ∧ x ∈ xs := by
  have hl : 0 < xs.length := List.length_pos_iff.mpr h
  obtain ⟨n, ds', e, h1, h2⟩ := take_ex ds (b := xs.length) (by omega)
  obtain ⟨k, rfl⟩ := Int.eq_ofNat_of_zero_le h1
  have hk : k < xs.length := by omega
  have ix : dIx (.lst (xs.map D.int)) (.int (k : Int)) = some (.v (.int xs[k])) := by
    show (atI _ _).map Rv.v = _
    rw [atI_nat (v := D.int xs[k]) (by rw [List.getElem?_map, List.getElem?_eq_getElem hk]; rfl)]; rfl
  exact ⟨xs[k], ds', by simp [F__law_pick, g__law_pick, sFun, sSeq, sRet, sRetN, sAnd, sOr, sNot, sIf, sIsi, sVar, sLit, sBin, sUn, ap2, ap1, apC, sOfT, tOfS, tCmp', tChn, tAnd', tOr', tNot', sCall, callV, sCallIO, callIO, aCons, aNil, frzs, frz, derefs, deref, sBlt, sDrop, sAsg, sAsgs, unl, unls, rN, rGo, sIfS, sNx, bnd, finE, tyName, isiN, cd_T, cd_F, cd_if, small, rngOk, mulOk, same_refl, dLen, e, ix], List.getElem_mem hk⟩
theorem counts_ex (ds : List Int) {most : Int} (h0 : 0 ≤ most) (h1 : most ≤ 250) : ∃ (cs ds' : List Int), F__law_counts [O ds, .val (.int most)] = .ok (.f (.lst (cs.map D.int))) [O ds', .no] ∧ cs.length ≤ 250 ∧ Cts cs := by
  obtain ⟨g, d1, e1, hg⟩ := pick_ex ds [5, 40, 1000, 1000001] (by simp)
  obtain ⟨n, d2, e2, n1, n2⟩ := take_ex d1 (b := most + 1) (by omega)
  have hg0 : 0 < g ∧ g ≤ 1000001 := by simp at hg; omega
  obtain ⟨acc, ρ2, e3, ⟨cs, d3, rfl, rfl, p⟩, hl⟩ := sLc_inv (it := iRange1 (sCallIO 2 F__law_take (aCons (sVar 0) (aCons (sBin dAdd (sVar 1) (sLit (.int 1))) aNil)))) (src := none) (tg := gN 3) (tt := tYesD) (te := sCallIO 2 F__law_take (aCons (sVar 0) (aCons (sVar 2) aNil))) (vs := [3])
    (ρ := [O d1, .val (.int most), .val (.int g), .no]) (ρ1 := [O d2, .val (.int most), .val (.int g), .no]) (l := upFrom 0 n.toNat)
    (fun acc ρ => ∃ cs ds' : List Int, acc = cs.map D.int ∧ ρ = [O ds', .val (.int most), .val (.int g), .no] ∧ ∀ c ∈ cs, 0 ≤ c ∧ c < g)
    (iR1_ok (r := .v (.int n)) (by simp [sFun, sSeq, sRet, sRetN, sAnd, sOr, sNot, sIf, sIsi, sVar, sLit, sBin, sUn, ap2, ap1, apC, sOfT, tOfS, tCmp', tChn, tAnd', tOr', tNot', sCall, callV, sCallIO, callIO, aCons, aNil, frzs, frz, derefs, deref, sBlt, sDrop, sAsg, sAsgs, unl, unls, rN, rGo, sIfS, sNx, bnd, finE, tyName, isiN, cd_T, cd_F, cd_if, small, rngOk, mulOk, same_refl, dAdd, e2]) rfl n1 (by omega))
    (fun _ _ _ => rfl) (fun d hd acc ρ ⟨cs, ds', a1, a2, a3⟩ => by
      subst a1; subst a2
      obtain ⟨m, d4, e4, m1, m2⟩ := take_ex ds' (b := g) hg0.1
      refine ⟨some (.int m), [O d4, .val (.int most), .val (.int g), .no], by simp [cstep, gN, nox, tYesD, wipeE, sFun, sSeq, sRet, sRetN, sAnd, sOr, sNot, sIf, sIsi, sVar, sLit, sBin, sUn, ap2, ap1, apC, sOfT, tOfS, tCmp', tChn, tAnd', tOr', tNot', sCall, callV, sCallIO, callIO, aCons, aNil, frzs, frz, derefs, deref, sBlt, sDrop, sAsg, sAsgs, unl, unls, rN, rGo, sIfS, sNx, bnd, finE, tyName, isiN, cd_T, cd_F, cd_if, small, rngOk, mulOk, same_refl, e4], cs ++ [m], d4, by simp, rfl, fun c hc => ?_⟩
      rcases List.mem_append.mp hc with q | q
      · exact a3 c q
      · rw [List.mem_singleton] at q; subst q; exact ⟨m1, m2⟩) ⟨[], d2, rfl, by simp [wipeE], fun c hc => by simp at hc⟩ (by rw [upFrom_len]; omega)
  rw [List.length_map, upFrom_len] at hl
  refine ⟨cs, d3, ?_, by omega, ⟨by omega, fun c hc => (p c hc).1, fun c hc => by have := (p c hc).2; omega⟩⟩
  simp only [List.map_cons, List.map_nil] at e1
  simp [backE] at e3
  simp [F__law_counts, g__law_counts, sFun, sSeq, sRet, sRetN, sAnd, sOr, sNot, sIf, sIsi, sVar, sLit, sBin, sUn, ap2, ap1, apC, sOfT, tOfS, tCmp', tChn, tAnd', tOr', tNot', sCall, callV, sCallIO, callIO, aCons, aNil, frzs, frz, derefs, deref, sBlt, sDrop, sAsg, sAsgs, unl, unls, rN, rGo, sIfS, sNx, bnd, finE, tyName, isiN, cd_T, cd_F, cd_if, small, rngOk, mulOk, same_refl, sLst, dAdd, dPow, e1, e3]
end L2.DL.W

namespace L2.DL.W
open PySem PySem.Spec PyProof.Rows L2 L2.DL L2.DL.Q
theorem pow_ex (i j : Int) (hi : 0 < i) (hi2 : i < 1000000) (hj : 0 ≤ j) (hj2 : j ≤ 1000) : ∃ P : Int, dPow (.int i) (.int j) = some (.v (.int P)) ∧ 0 < P := by
  refine ⟨i ^ j.toNat, ?_, Int.pow_pos hi⟩
  show (if cd (0 ≤ j ∧ j ≤ 1000000 ∧ i.natAbs < 2 ^ 64) = true then _ else _) = _
  rw [if_pos (cd_true ⟨hj, by omega, by omega⟩)]
theorem dMod_ok {i j : Int} (h : 0 < j) : dMod (.int i) (.int j) = some (.v (.int (i % j))) := by
  show (if cd (0 < j) = true then _ else _) = _
  rw [if_pos (cd_true h)]
theorem dMul_okr {i j : Int} (h : -(2 ^ 64) < j) (h2 : j < 2 ^ 64) : dMul (.int i) (.int j) = some (.v (.int (i * j))) := by
  have q : mulOk i j = true := cd_true (.inr ⟨h, h2⟩)
  unfold dMul
  simp only [q, if_true]
theorem inner_ex (ns : List Int) (c2 c4 : Cell) (base : Nat) (hb : base ≤ 1000000) {ds : List Int} {m : Int} {c5 : Cell} (hd : ds.length ≤ base) : ∃ (ds' : List Int) (m' : Int) (c5' : Cell),
    sFor (fxs [0]) (iRange1 (sLit (.int 60))) (gN 5) (sIfS (tCmp' dGt (sVar 3) (sLit (.int 0))) (sSeq (sDrop (sAppend (sVar 1) (sBin dMod (sBlt dInt (aCons (sVar 3) aNil)) (sLit (.int 997))))) (sAsg (rN 3) (sBin dDiv (sVar 3) (sLit (.int 997))))) sNx) [.val (.scr ns), O ds, c2, .val (.int m), c4, c5, .no] = .ok .nx [.val (.scr ns), O ds', c2, .val (.int m'), c4, c5', .no] ∧ ds'.length ≤ base + 60 := by
  have key := forGo_inv (src := none) (tg := gN 5) (body := sIfS (tCmp' dGt (sVar 3) (sLit (.int 0))) (sSeq (sDrop (sAppend (sVar 1) (sBin dMod (sBlt dInt (aCons (sVar 3) aNil)) (sLit (.int 997))))) (sAsg (rN 3) (sBin dDiv (sVar 3) (sLit (.int 997))))) sNx)
    (P := fun k ρ => ∃ (ds : List Int) (m : Int) (c5 : Cell), ρ = [.val (.scr ns), O ds, c2, .val (.int m), c4, c5, .no] ∧ ds.length ≤ base + k) (l := upFrom 0 60) (k := 0) (ρ := [.val (.scr ns), O ds, c2, .val (.int m), c4, c5, .no])
    (fun _ _ _ => rfl) (fun i d ρ hd hp => by
      obtain ⟨hi, rfl⟩ := upFrom_get' hd
      obtain ⟨ds, m, c5, rfl, hl⟩ := hp
      have hz : ds.length + 1 ≤ 16777216 := by omega
      have m1 := dMod_ok (i := m) (j := 997) (by omega)
      have m2 := dDiv_ok (i := m) (j := 997) (by omega) (by omega)
      by_cases q : 0 < m
      · exact ⟨.nx, [.val (.scr ns), O (ds ++ [m % 997]), c2, .val (.int (m / 997)), c4, .val (.int (0 + i)), .no], by simp [gN, sAppend, sFun, sSeq, sRet, sRetN, sAnd, sOr, sNot, sIf, sIsi, sVar, sLit, sBin, sUn, ap2, ap1, apC, sOfT, tOfS, tCmp', tChn, tAnd', tOr', tNot', sCall, callV, sCallIO, callIO, aCons, aNil, frzs, frz, derefs, deref, sBlt, sDrop, sAsg, sAsgs, unl, unls, rN, rGo, sIfS, sNx, bnd, finE, tyName, isiN, cd_T, cd_F, cd_if, small, rngOk, mulOk, same_refl, dGt, q, dInt, m1, m2, hz], .inl rfl, _, _, _, rfl, by simp; omega⟩
      · exact ⟨.nx, [.val (.scr ns), O ds, c2, .val (.int m), c4, .val (.int (0 + i)), .no], by simp [gN, sFun, sSeq, sRet, sRetN, sAnd, sOr, sNot, sIf, sIsi, sVar, sLit, sBin, sUn, ap2, ap1, apC, sOfT, tOfS, tCmp', tChn, tAnd', tOr', tNot', sCall, callV, sCallIO, callIO, aCons, aNil, frzs, frz, derefs, deref, sBlt, sDrop, sAsg, sAsgs, unl, unls, rN, rGo, sIfS, sNx, bnd, finE, tyName, isiN, cd_T, cd_F, cd_if, small, rngOk, mulOk, same_refl, dGt, q], .inl rfl, _, _, _, rfl, by omega⟩) ⟨ds, m, c5, rfl, by omega⟩
  obtain ⟨ρ', e, ds', m', c5', rfl, hl⟩ := key
  rw [upFrom_len] at hl
  exact ⟨ds', m', c5', sFor_go (iR1_ok (r := .v (.int 60)) rfl rfl (by omega) (by omega)) e, by omega⟩
theorem dAbs_int (i : Int) : dAbs [.int i] = some (.v (.int i.natAbs)) := by
  show some (Rv.v (.int (if cd (i < 0) = true then -i else i))) = _
  rw [cd_if]
  congr 3
  split <;> omega
theorem draws_ex (ns : List Int) (hn : ns.length ≤ 63) : ∃ ds : List Int, F__law_draws [.val (.scr ns)] = .ok (.f (.lst (ds.map D.int))) [.no] := by
  obtain ⟨P, hP, hP0⟩ := pow_ex 997 60 (by omega) (by omega) (by omega) (by omega)
  obtain ⟨T, hT, hT0⟩ := pow_ex 10 18 (by omega) (by omega) (by omega) (by omega)
  unfold F__law_draws
  suffices h : ∃ (ds : List Int) (ρ : DEnv), g__law_draws [.val (.scr ns), .no, .no, .no, .no, .no, .no] = .ok (.ret (.f (.lst (ds.map D.int)))) ρ by
    obtain ⟨ds, ρ, e⟩ := h
    exact ⟨ds, sFun_ret e fun i z => by cases z⟩
  unfold g__law_draws
  rw [sSeq_nx (ρ1 := [.val (.scr ns), O [], .no, .no, .no, .no, .no]) (by simp [sLst, sFun, sSeq, sRet, sRetN, sAnd, sOr, sNot, sIf, sIsi, sVar, sLit, sBin, sUn, ap2, ap1, apC, sOfT, tOfS, tCmp', tChn, tAnd', tOr', tNot', sCall, callV, sCallIO, callIO, aCons, aNil, frzs, frz, derefs, deref, sBlt, sDrop, sAsg, sAsgs, unl, unls, rN, rGo, sIfS, sNx, bnd, finE, tyName, isiN, cd_T, cd_F, cd_if, small, rngOk, mulOk, same_refl])]
  -- the script's cells
  have loop : ∃ ρ', (sFor (fxs [0]) (iAny (sVar 0)) (gN 2) (sSeq (sAsg (rN 3) (sBin dMod (sBlt dInt (aCons (sBlt dAbs (aCons (sVar 2) (aNil))) (aNil))) (sBin dPow (sLit (.int 997)) (sLit (.int 60))))) (sSeq (sIfS (tCmp' dLt (sVar 3) (sBin dPow (sLit (.int 10)) (sLit (.int 18)))) (sSeq (sAsg (rN 4) (sBin dMod (sBlt dInt (aCons (sBin dAdd (sBin dMul (sVar 3) (sLit (.int 48271))) (sLit (.int 11))) (aNil))) (sLit (.int 2147483647)))) (sSeq (sDrop (sAppend (sVar 1) (sBin dMod (sBlt dInt (aCons (sBin dAdd (sBin dMul (sVar 4) (sLit (.int 69621))) (sVar 3)) (aNil))) (sLit (.int 2147483629))))) (sSeq (sDrop (sAppend (sVar 1) (sBin dMod (sBlt dInt (aCons (sBin dAdd (sVar 4) (sBin dDiv (sVar 3) (sLit (.int 7)))) (aNil))) (sLit (.int 1000003))))) (sAsg (rN 3) (sLit (.int 0)))))) (sNx)) (sFor (fxs [0]) (iRange1 (sLit (.int 60))) (gN 5) (sIfS (tCmp' dGt (sVar 3) (sLit (.int 0))) (sSeq (sDrop (sAppend (sVar 1) (sBin dMod (sBlt dInt (aCons (sVar 3) (aNil))) (sLit (.int 997))))) (sAsg (rN 3) (sBin dDiv (sVar 3) (sLit (.int 997))))) (sNx)))))) [.val (.scr ns), O [], .no, .no, .no, .no, .no] = .ok .nx ρ' ∧ ∃ (ds : List Int) (c2 c3 c4 c5 : Cell), ρ' = [.val (.scr ns), O ds, c2, c3, c4, c5, .no] ∧ ds.length ≤ 62 * (ns.map D.int).length := by
    refine sFor_inv (fun k ρ => ∃ (ds : List Int) (c2 c3 c4 c5 : Cell), ρ = [.val (.scr ns), O ds, c2, c3, c4, c5, .no] ∧ ds.length ≤ 62 * k) (ρ1 := [.val (.scr ns), O [], .no, .no, .no, .no, .no]) (by simp [iAny, sFun, sSeq, sRet, sRetN, sAnd, sOr, sNot, sIf, sIsi, sVar, sLit, sBin, sUn, ap2, ap1, apC, sOfT, tOfS, tCmp', tChn, tAnd', tOr', tNot', sCall, callV, sCallIO, callIO, aCons, aNil, frzs, frz, derefs, deref, sBlt, sDrop, sAsg, sAsgs, unl, unls, rN, rGo, sIfS, sNx, bnd, finE, tyName, isiN, cd_T, cd_F, cd_if, small, rngOk, mulOk, same_refl, walk])
      (fun i d ρ hd hp => by
        rw [List.getElem?_map] at hd
        cases hx : ns[i]? with
        | none => rw [hx] at hd; cases hd
        | some x =>
          rw [hx] at hd; cases hd
          have hi : i < ns.length := (List.getElem?_eq_some_iff.mp hx).1
          obtain ⟨ds, c2, c3, c4, c5, rfl, hl⟩ := hp
          show ∃ r ρ', (sSeq _ _) [.val (.scr ns), O ds, .val (.int x), c3, c4, c5, .no] = .ok r ρ' ∧ _
          have m0 := dMod_ok (i := (x.natAbs : Int)) hP0
          generalize (x.natAbs : Int) % P = m at m0
          rw [sSeq_nx (ρ1 := [.val (.scr ns), O ds, .val (.int x), .val (.int m), c4, c5, .no]) (by simp [sFun, sSeq, sRet, sRetN, sAnd, sOr, sNot, sIf, sIsi, sVar, sLit, sBin, sUn, ap2, ap1, apC, sOfT, tOfS, tCmp', tChn, tAnd', tOr', tNot', sCall, callV, sCallIO, callIO, aCons, aNil, frzs, frz, derefs, deref, sBlt, sDrop, sAsg, sAsgs, unl, unls, rN, rGo, sIfS, sNx, bnd, finE, tyName, isiN, cd_T, cd_F, cd_if, small, rngOk, mulOk, same_refl, dAbs_int, dInt, hP, m0])]
          have z1 : ds.length + 1 ≤ 16777216 := by omega
          have z2 : ds.length + 1 + 1 ≤ 16777216 := by omega
          by_cases q : m < T
          · have w1 := dMul_okr (i := m) (j := 48271) (by omega) (by omega)
            have w2 := dMod_ok (i := m * 48271 + 11) (j := 2147483647) (by omega)
            generalize (m * 48271 + 11) % 2147483647 = f1 at w2
            have w3 := dMul_okr (i := f1) (j := 69621) (by omega) (by omega)
            have w4 := dMod_ok (i := f1 * 69621 + m) (j := 2147483629) (by omega)
            have w5 := dDiv_ok (i := m) (j := 7) (by omega) (by omega)
            have w6 := dMod_ok (i := f1 + m / 7) (j := 1000003) (by omega)
            generalize (f1 * 69621 + m) % 2147483629 = a1 at w4
            generalize (f1 + m / 7) % 1000003 = a2 at w6
            rw [sSeq_nx (ρ1 := [.val (.scr ns), O (ds ++ [a1, a2]), .val (.int x), .val (.int 0), .val (.int f1), c5, .no]) (by
              rw [sIf_yes (ρ1 := [.val (.scr ns), O ds, .val (.int x), .val (.int m), c4, c5, .no]) (by simp [sFun, sSeq, sRet, sRetN, sAnd, sOr, sNot, sIf, sIsi, sVar, sLit, sBin, sUn, ap2, ap1, apC, sOfT, tOfS, tCmp', tChn, tAnd', tOr', tNot', sCall, callV, sCallIO, callIO, aCons, aNil, frzs, frz, derefs, deref, sBlt, sDrop, sAsg, sAsgs, unl, unls, rN, rGo, sIfS, sNx, bnd, finE, tyName, isiN, cd_T, cd_F, cd_if, small, rngOk, mulOk, same_refl, hT, dLt, q])]
              simp [sAppend, sFun, sSeq, sRet, sRetN, sAnd, sOr, sNot, sIf, sIsi, sVar, sLit, sBin, sUn, ap2, ap1, apC, sOfT, tOfS, tCmp', tChn, tAnd', tOr', tNot', sCall, callV, sCallIO, callIO, aCons, aNil, frzs, frz, derefs, deref, sBlt, sDrop, sAsg, sAsgs, unl, unls, rN, rGo, sIfS, sNx, bnd, finE, tyName, isiN, cd_T, cd_F, cd_if, small, rngOk, mulOk, same_refl, dInt, dAdd, w1, w2, w3, w4, w5, w6, z1, z2])]
            obtain ⟨ds', m', c5', e, hl'⟩ := inner_ex ns (.val (.int x)) (.val (.int f1)) (62 * i + 2) (by omega) (ds := ds ++ [a1, a2]) (m := 0) (c5 := c5) (by simp; omega)
            exact ⟨.nx, _, e, .inl rfl, ds', _, _, _, _, rfl, by omega⟩
          · rw [sSeq_nx (ρ1 := [.val (.scr ns), O ds, .val (.int x), .val (.int m), c4, c5, .no]) (sIf_nx (by simp [sFun, sSeq, sRet, sRetN, sAnd, sOr, sNot, sIf, sIsi, sVar, sLit, sBin, sUn, ap2, ap1, apC, sOfT, tOfS, tCmp', tChn, tAnd', tOr', tNot', sCall, callV, sCallIO, callIO, aCons, aNil, frzs, frz, derefs, deref, sBlt, sDrop, sAsg, sAsgs, unl, unls, rN, rGo, sIfS, sNx, bnd, finE, tyName, isiN, cd_T, cd_F, cd_if, small, rngOk, mulOk, same_refl, hT, dLt, q]))]
            obtain ⟨ds', m', c5', e, hl'⟩ := inner_ex ns (.val (.int x)) c4 (62 * i) (by omega) (ds := ds) (m := m) (c5 := c5) (by omega)
            exact ⟨.nx, _, e, .inl rfl, ds', _, _, _, _, rfl, by omega⟩) ⟨[], _, _, _, _, rfl, by simp⟩
  obtain ⟨ρ', e, ds, c2, c3, c4, c5, rfl, hl⟩ := loop
  rw [List.length_map] at hl
  rw [sSeq_nx e]
  rw [sSeq_nx (ρ1 := [.val (.scr ns), O ds, c2, c3, c4, c5, .val (.int 1)]) (by simp [sFun, sSeq, sRet, sRetN, sAnd, sOr, sNot, sIf, sIsi, sVar, sLit, sBin, sUn, ap2, ap1, apC, sOfT, tOfS, tCmp', tChn, tAnd', tOr', tNot', sCall, callV, sCallIO, callIO, aCons, aNil, frzs, frz, derefs, deref, sBlt, sDrop, sAsg, sAsgs, unl, unls, rN, rGo, sIfS, sNx, bnd, finE, tyName, isiN, cd_T, cd_F, cd_if, small, rngOk, mulOk, same_refl])]
  have seed : ∃ s : Int, sIfS (tCmp' dGt (sBlt dLen (aCons (sVar 0) (aNil))) (sLit (.int 0))) (sAsg (rN 6) (sBin dAdd (sLit (.int 1)) (sBlt dAbs (aCons (sBin dIx (sVar 0) (sLit (.int 0))) (aNil))))) (sNx) [.val (.scr ns), O ds, c2, c3, c4, c5, .val (.int 1)] = .ok .nx [.val (.scr ns), O ds, c2, c3, c4, c5, .val (.int s)] := by
    cases ns with
    | nil => exact ⟨1, by simp [sFun, sSeq, sRet, sRetN, sAnd, sOr, sNot, sIf, sIsi, sVar, sLit, sBin, sUn, ap2, ap1, apC, sOfT, tOfS, tCmp', tChn, tAnd', tOr', tNot', sCall, callV, sCallIO, callIO, aCons, aNil, frzs, frz, derefs, deref, sBlt, sDrop, sAsg, sAsgs, unl, unls, rN, rGo, sIfS, sNx, bnd, finE, tyName, isiN, cd_T, cd_F, cd_if, small, rngOk, mulOk, same_refl, dLen, dGt]⟩
    | cons x ns =>
      have ix : dIx (.scr (x :: ns)) (.int 0) = some (.v (.int x)) := by
        show (atI (x :: ns) 0).map (fun n => Rv.v (.int n)) = _
        rw [show (0 : Int) = ((0 : Nat) : Int) from rfl, atI_nat (j := 0) (v := x) rfl]; rfl
      have q : (0 : Int) < (ns.length : Int) + 1 := by omega
      exact ⟨1 + x.natAbs, by simp [sFun, sSeq, sRet, sRetN, sAnd, sOr, sNot, sIf, sIsi, sVar, sLit, sBin, sUn, ap2, ap1, apC, sOfT, tOfS, tCmp', tChn, tAnd', tOr', tNot', sCall, callV, sCallIO, callIO, aCons, aNil, frzs, frz, derefs, deref, sBlt, sDrop, sAsg, sAsgs, unl, unls, rN, rGo, sIfS, sNx, bnd, finE, tyName, isiN, cd_T, cd_F, cd_if, small, rngOk, mulOk, same_refl, dLen, dGt, q, ix, dAbs_int, dAdd]⟩
  obtain ⟨s, es⟩ := seed
  rw [sSeq_nx es]
  have key := forGo_inv (src := none) (tg := gN 5) (body := (sSeq (sAsg (rN 6) (sBin dMod (sBlt dInt (aCons (sBin dAdd (sBin dMul (sVar 6) (sLit (.int 48271))) (sLit (.int 69621))) (aNil))) (sLit (.int 2147483647)))) (sDrop (sAppend (sVar 1) (sBin dDiv (sVar 6) (sLit (.int 5)))))))
    (P := fun k ρ => ∃ (ds : List Int) (s : Int) (c5 : Cell), ρ = [.val (.scr ns), O ds, c2, c3, c4, c5, .val (.int s)] ∧ ds.length ≤ 62 * 63 + k) (l := upFrom 0 9000) (k := 0) (ρ := [.val (.scr ns), O ds, c2, c3, c4, c5, .val (.int s)])
    (fun _ _ _ => rfl) (fun i d ρ hd hp => by
      obtain ⟨hi, rfl⟩ := upFrom_get' hd
      obtain ⟨ds, s, c5, rfl, hl⟩ := hp
      have hz : ds.length + 1 ≤ 16777216 := by omega
      have w1 := dMul_okr (i := s) (j := 48271) (by omega) (by omega)
      have w2 := dMod_ok (i := s * 48271 + 69621) (j := 2147483647) (by omega)
      generalize (s * 48271 + 69621) % 2147483647 = s2 at w2
      have w3 := dDiv_ok (i := s2) (j := 5) (by omega) (by omega)
      exact ⟨.nx, [.val (.scr ns), O (ds ++ [s2 / 5]), c2, c3, c4, .val (.int (0 + i)), .val (.int s2)], by simp [gN, sAppend, sFun, sSeq, sRet, sRetN, sAnd, sOr, sNot, sIf, sIsi, sVar, sLit, sBin, sUn, ap2, ap1, apC, sOfT, tOfS, tCmp', tChn, tAnd', tOr', tNot', sCall, callV, sCallIO, callIO, aCons, aNil, frzs, frz, derefs, deref, sBlt, sDrop, sAsg, sAsgs, unl, unls, rN, rGo, sIfS, sNx, bnd, finE, tyName, isiN, cd_T, cd_F, cd_if, small, rngOk, mulOk, same_refl, dInt, dAdd, w1, w2, w3, hz], .inl rfl, _, _, _, rfl, by simp; omega⟩) ⟨ds, s, c5, rfl, by omega⟩
  obtain ⟨ρ', e2, ds2, s2, c52, rfl, hl2⟩ := key
  rw [sSeq_nx (sFor_go (fxL := fxs []) (iR1_ok (f := sLit (.int 9000)) (r := .v (.int 9000)) rfl rfl (by omega) (by omega)) e2)]
  refine ⟨ds2.reverse, [.val (.scr ns), O ds2, c2, c3, c4, c52, .val (.int s2)], ?_⟩
  simp [sLstRev, sFun, sSeq, sRet, sRetN, sAnd, sOr, sNot, sIf, sIsi, sVar, sLit, sBin, sUn, ap2, ap1, apC, sOfT, tOfS, tCmp', tChn, tAnd', tOr', tNot', sCall, callV, sCallIO, callIO, aCons, aNil, frzs, frz, derefs, deref, sBlt, sDrop, sAsg, sAsgs, unl, unls, rN, rGo, sIfS, sNx, bnd, finE, tyName, isiN, cd_T, cd_F, cd_if, small, rngOk, mulOk, same_refl]
end L2.DL.W

namespace L2.DL.W
open PySem PySem.Spec PyProof.Rows L2 L2.DL L2.DL.Q
theorem filter_take {t : Int} {k : Nat} {fl : List Int} (d : Desc fl) (h : k ≤ Q.cnt t fl) : (fl.take k).filter (fun x => decide (t ≤ x)) = fl.take k := by
  rw [List.filter_eq_self]
  intro x hx
  simpa using desc_take d h x hx
theorem ix_int {l : List Int} {i : Nat} {x : Int} (h : l[i]? = some x) : dIx (.lst (l.map D.int)) (.int (i : Int)) = some (.v (.int x)) := by
  show (atI _ _).map Rv.v = _
  rw [atI_nat (v := D.int x) (by rw [List.getElem?_map, h]; rfl)]; rfl
theorem cts_perm {a b : List Int} (h : Cts a) (p : a.Perm b) : Cts b := ⟨by rw [← p.length_eq]; exact h.len, fun c hc => h.nn c (p.symm.subset hc), fun c hc => h.hi c (p.symm.subset hc)⟩
theorem measured {cs : List Int} (hc : Cts cs) : F__law_is_measured [C cs] = .ok (.v (.bl true)) [.no] := by
  have h1 := hc.len
  have cf : Cts (fal cs) := cts_perm hc (fal_perm cs).symm
  have vT := fun n => v_takes_h (n := n) hc
  have vh := v_h_of hc
  have vg := v_g_of hc
  have vw := v_w_of hc
  have vc := v_core_of hc
  have vt := v_tail_of hc
  have va := fun n => v_at_least (n := n) hc
  have vhf := v_h_of cf
  have eHf : hI (fal cs) = hI cs := (hI_is (fal cs)).one ((hI_is cs).perm (fal_perm cs).symm)
  rw [eHf] at vhf
  have iH := hI_is cs
  have iG := (gI_is hc).1
  have iW := wI_is cs
  have pF := fal_perm cs
  have dF := fal_desc cs
  have lF := fal_len cs
  have iHf := iH.perm pF.symm
  have iWf := iW.perm pF.symm
  have gH := iG.ge dF iHf
  have sF : (fal cs).sum = cs.sum := perm_sum pF
  have srt1 := dSorted_ints cs (by omega)
  have eF : fal cs = (srt cs).reverse := rfl
  have cntF : ∀ t, Q.cnt t (fal cs) = Q.cnt t cs := fun t => cnt_perm pF
  have s0 : sRev (sBlt dSorted (aCons (sVar 0) aNil)) [C cs, .no, .no, .no, .no, .no, .no, .no] = .ok (.f (.lst ((fal cs).map D.int))) [C cs, .no, .no, .no, .no, .no, .no, .no] := by
    rw [eF]; simp [sRev, sFun, sSeq, sRet, sRetN, sAnd, sOr, sNot, sIf, sIsi, sVar, sLit, sBin, sUn, ap2, ap1, apC, sOfT, tOfS, tCmp', tChn, tAnd', tOr', tNot', sCall, callV, sCallIO, callIO, aCons, aNil, frzs, frz, derefs, deref, sBlt, sDrop, sAsg, sAsgs, unl, unls, rN, rGo, sIfS, sNx, bnd, finE, tyName, isiN, cd_T, cd_F, cd_if, small, rngOk, mulOk, same_refl, srt1]
  generalize hI cs = H at *
  generalize gI cs = G at *
  generalize wI cs = W at *
  generalize fal cs = fl at *
  have hHl := iH.le
  have hGl := iG.le
  have hWl := iW.le
  let ρ1 : DEnv := [C cs, O fl, .val (.int H), .val (.int G), .val (.int W), .no, .no, .no]
  suffices h : ∃ ρ, g__law_is_measured [C cs, .no, .no, .no, .no, .no, .no, .no] = .ok (.ret (.v (.bl true))) ρ by
    obtain ⟨ρ, e⟩ := h
    exact sFun_ret e fun i z => by cases z
  unfold g__law_is_measured
  rw [sSeq_nx (ρ1 := ρ1) (by simp [sFun, sSeq, sRet, sRetN, sAnd, sOr, sNot, sIf, sIsi, sVar, sLit, sBin, sUn, ap2, ap1, apC, sOfT, tOfS, tCmp', tChn, tAnd', tOr', tNot', sCall, callV, sCallIO, callIO, aCons, aNil, frzs, frz, derefs, deref, sBlt, sDrop, sAsg, sAsgs, unl, unls, rN, rGo, sIfS, sNx, bnd, finE, tyName, isiN, cd_T, cd_F, cd_if, small, rngOk, mulOk, same_refl, s0, vh, vg, vw, ρ1, cd_T])]
  -- h
  have t1 := sSl_take (f := sVar 1) (g := sVar 2) (ρ := ρ1) (ns := fl.map D.int) (k := H) rfl rfl rfl rfl
  rw [← List.map_take] at t1
  have l1 := sLc_ints (it := iAny (sSl (sVar 1) (pPart none) (pPart (some (sVar 2))))) (src := none) (ρ := ρ1) (ρ1 := ρ1) (ns := fl.take H) (tg := gN 7) (tt := tCmp' dGe (sVar 7) (sVar 2)) (te := sVar 7) (vs := [7])
    (fun x => decide ((H : Int) ≤ x)) D.int (by simp [iAny, bnd, t1, walk, walkL]) rfl
    (fun x _ => by by_cases q : (H : Int) ≤ x <;> simp [ρ1, cstep, gN, nox, wipeE, sFun, sSeq, sRet, sRetN, sAnd, sOr, sNot, sIf, sIsi, sVar, sLit, sBin, sUn, ap2, ap1, apC, sOfT, tOfS, tCmp', tChn, tAnd', tOr', tNot', sCall, callV, sCallIO, callIO, aCons, aNil, frzs, frz, derefs, deref, sBlt, sDrop, sAsg, sAsgs, unl, unls, rN, rGo, sIfS, sNx, bnd, finE, tyName, isiN, cd_T, cd_F, cd_if, small, rngOk, mulOk, same_refl, dGe, q]) (by rw [List.length_take]; omega)
  rw [filter_take dF iHf.up] at l1
  have c1 : tOr' (tCmp' dGt (sVar 2) (sBlt dLen (aCons (sVar 0) aNil))) (tOr' (tCmp' dNe (sSl (sVar 1) (pPart none) (pPart (some (sVar 2)))) (sLc (iAny (sSl (sVar 1) (pPart none) (pPart (some (sVar 2))))) (gN 7) (tCmp' dGe (sVar 7) (sVar 2)) (sVar 7) [7])) (tAnd' (tCmp' dGt (sBlt dLen (aCons (sVar 0) aNil)) (sVar 2)) (tCmp' dGe (sBin dIx (sVar 1) (sVar 2)) (sBin dAdd (sVar 2) (sLit (.int 1)))))) ρ1 = .ok false ρ1 := by
    have q : ¬ ((cs.length : Int) < (H : Int)) := by omega
    rw [tOr_f (ρ1 := ρ1) (by simp [ρ1, sFun, sSeq, sRet, sRetN, sAnd, sOr, sNot, sIf, sIsi, sVar, sLit, sBin, sUn, ap2, ap1, apC, sOfT, tOfS, tCmp', tChn, tAnd', tOr', tNot', sCall, callV, sCallIO, callIO, aCons, aNil, frzs, frz, derefs, deref, sBlt, sDrop, sAsg, sAsgs, unl, unls, rN, rGo, sIfS, sNx, bnd, finE, tyName, isiN, cd_T, cd_F, cd_if, small, rngOk, mulOk, same_refl, dLen, dGt, q])]
    rw [tOr_f (ρ1 := ρ1) (by simp only [tCmp', bnd, t1, l1, apC, deref, dNe_ints]; simp)]
    by_cases q2 : H < cs.length
    · have q3 : (H : Int) < (cs.length : Int) := by omega
      rw [tAnd_t (ρ1 := ρ1) (by simp [ρ1, sFun, sSeq, sRet, sRetN, sAnd, sOr, sNot, sIf, sIsi, sVar, sLit, sBin, sUn, ap2, ap1, apC, sOfT, tOfS, tCmp', tChn, tAnd', tOr', tNot', sCall, callV, sCallIO, callIO, aCons, aNil, frzs, frz, derefs, deref, sBlt, sDrop, sAsg, sAsgs, unl, unls, rN, rGo, sIfS, sNx, bnd, finE, tyName, isiN, cd_T, cd_F, cd_if, small, rngOk, mulOk, same_refl, dLen, dGt, q3])]
      have hx := List.getElem?_eq_getElem (l := fl) (i := H) (by omega)
      have q4 : ¬ ((H : Int) + 1 ≤ fl[H]'(by omega)) := fun z => by
        have := (desc_iff (t := (H : Int) + 1) dF hx).mp z
        have := iHf.dn; omega
      have ix := ix_int hx
      generalize fl[H]'(by omega) = x at q4 ix
      simp [ρ1, sFun, sSeq, sRet, sRetN, sAnd, sOr, sNot, sIf, sIsi, sVar, sLit, sBin, sUn, ap2, ap1, apC, sOfT, tOfS, tCmp', tChn, tAnd', tOr', tNot', sCall, callV, sCallIO, callIO, aCons, aNil, frzs, frz, derefs, deref, sBlt, sDrop, sAsg, sAsgs, unl, unls, rN, rGo, sIfS, sNx, bnd, finE, tyName, isiN, cd_T, cd_F, cd_if, small, rngOk, mulOk, same_refl, ix, dAdd, dGe, q4]
    · have q3 : ¬ ((H : Int) < (cs.length : Int)) := by omega
      exact tAnd_f (by simp [ρ1, sFun, sSeq, sRet, sRetN, sAnd, sOr, sNot, sIf, sIsi, sVar, sLit, sBin, sUn, ap2, ap1, apC, sOfT, tOfS, tCmp', tChn, tAnd', tOr', tNot', sCall, callV, sCallIO, callIO, aCons, aNil, frzs, frz, derefs, deref, sBlt, sDrop, sAsg, sAsgs, unl, unls, rN, rGo, sIfS, sNx, bnd, finE, tyName, isiN, cd_T, cd_F, cd_if, small, rngOk, mulOk, same_refl, dLen, dGt, q3])
  rw [sSeq_nx (sIf_nx c1)]
  -- g
  have t2 := sSl_take (f := sVar 1) (g := sVar 3) (ρ := ρ1) (ns := fl.map D.int) (k := G) rfl rfl rfl rfl
  rw [← List.map_take] at t2
  have t3 := sSl_take (f := sVar 1) (g := sBin dAdd (sVar 3) (sLit (.int 1))) (ρ := ρ1) (ns := fl.map D.int) (k := G + 1) rfl rfl rfl rfl
  rw [← List.map_take] at t3
  have mG := dMul_ok (i := G) (j := G) (by omega) (by omega)
  have mG1 := dMul_ok (i := (G : Int) + 1) (j := (G : Int) + 1) (by omega) (by omega)
  have c2 : tOr' (tNot' (tChn dLe dLe (sVar 2) (sVar 3) (sBlt dLen (aCons (sVar 0) aNil)))) (tOr' (tCmp' dLt (sBlt dSum (aCons (sSl (sVar 1) (pPart none) (pPart (some (sVar 3)))) aNil)) (sBin dMul (sVar 3) (sVar 3))) (tAnd' (tCmp' dLt (sVar 3) (sBlt dLen (aCons (sVar 0) aNil))) (tCmp' dGe (sBlt dSum (aCons (sSl (sVar 1) (pPart none) (pPart (some (sBin dAdd (sVar 3) (sLit (.int 1)))))) aNil)) (sBin dMul (sBin dAdd (sVar 3) (sLit (.int 1))) (sBin dAdd (sVar 3) (sLit (.int 1))))))) ρ1 = .ok false ρ1 := by
    have q : (H : Int) ≤ (G : Int) := by omega
    have q' : (G : Int) ≤ (cs.length : Int) := by omega
    rw [tOr_f (ρ1 := ρ1) (tNot_f (by simp only [ρ1] at *; simp [sFun, sSeq, sRet, sRetN, sAnd, sOr, sNot, sIf, sIsi, sVar, sLit, sBin, sUn, ap2, ap1, apC, sOfT, tOfS, tCmp', tChn, tAnd', tOr', tNot', sCall, callV, sCallIO, callIO, aCons, aNil, frzs, frz, derefs, deref, sBlt, sDrop, sAsg, sAsgs, unl, unls, rN, rGo, sIfS, sNx, bnd, finE, tyName, isiN, cd_T, cd_F, cd_if, small, rngOk, mulOk, same_refl, dLen, dLe, q, q']))]
    have g1 : ¬ ((fl.take G).sum < (G : Int) * G) := by have := iG.up; omega
    have ds := dSum_ints (fl.take G)
    generalize (fl.take G).map D.int = T at t2 ds
    generalize (fl.take G).sum = S1 at g1 ds
    rw [tOr_f (ρ1 := ρ1) (by
      have e : (sBlt dSum (aCons (sSl (sVar 1) (pPart none) (pPart (some (sVar 3)))) aNil)) ρ1 = .ok (.v (.int S1)) ρ1 := by simp [sBlt, aCons, aNil, bnd, t2, derefs, deref, ds]
      have e2 : (sBin dMul (sVar 3) (sVar 3)) ρ1 = .ok (.v (.int ((G : Int) * G))) ρ1 := by simp [ρ1, sFun, sSeq, sRet, sRetN, sAnd, sOr, sNot, sIf, sIsi, sVar, sLit, sBin, sUn, ap2, ap1, apC, sOfT, tOfS, tCmp', tChn, tAnd', tOr', tNot', sCall, callV, sCallIO, callIO, aCons, aNil, frzs, frz, derefs, deref, sBlt, sDrop, sAsg, sAsgs, unl, unls, rN, rGo, sIfS, sNx, bnd, finE, tyName, isiN, cd_T, cd_F, cd_if, small, rngOk, mulOk, same_refl, mG]
      simp [tCmp', bnd, e, e2, apC, deref, dLt, g1, cd_F])]
    by_cases q2 : G < cs.length
    · have q3 : (G : Int) < (cs.length : Int) := by omega
      rw [tAnd_t (ρ1 := ρ1) (by simp [ρ1, sFun, sSeq, sRet, sRetN, sAnd, sOr, sNot, sIf, sIsi, sVar, sLit, sBin, sUn, ap2, ap1, apC, sOfT, tOfS, tCmp', tChn, tAnd', tOr', tNot', sCall, callV, sCallIO, callIO, aCons, aNil, frzs, frz, derefs, deref, sBlt, sDrop, sAsg, sAsgs, unl, unls, rN, rGo, sIfS, sNx, bnd, finE, tyName, isiN, cd_T, cd_F, cd_if, small, rngOk, mulOk, same_refl, dLen, dLt, q3])]
      have g2 : ¬ (((G : Int) + 1) * ((G : Int) + 1) ≤ (fl.take (G + 1)).sum) := by
        have := iG.dn (G + 1) (by omega) (by omega)
        rw [show ((G + 1 : Nat) : Int) = (G : Int) + 1 by omega] at this
        omega
      have ds := dSum_ints (fl.take (G + 1))
      generalize (fl.take (G + 1)).map D.int = T at t3 ds
      generalize (fl.take (G + 1)).sum = S1 at g2 ds
      have e : (sBlt dSum (aCons (sSl (sVar 1) (pPart none) (pPart (some (sBin dAdd (sVar 3) (sLit (.int 1)))))) aNil)) ρ1 = .ok (.v (.int S1)) ρ1 := by simp [sBlt, aCons, aNil, bnd, t3, derefs, deref, ds]
      have e2 : (sBin dMul (sBin dAdd (sVar 3) (sLit (.int 1))) (sBin dAdd (sVar 3) (sLit (.int 1)))) ρ1 = .ok (.v (.int (((G : Int) + 1) * ((G : Int) + 1)))) ρ1 := by simp [ρ1, sFun, sSeq, sRet, sRetN, sAnd, sOr, sNot, sIf, sIsi, sVar, sLit, sBin, sUn, ap2, ap1, apC, sOfT, tOfS, tCmp', tChn, tAnd', tOr', tNot', sCall, callV, sCallIO, callIO, aCons, aNil, frzs, frz, derefs, deref, sBlt, sDrop, sAsg, sAsgs, unl, unls, rN, rGo, sIfS, sNx, bnd, finE, tyName, isiN, cd_T, cd_F, cd_if, small, rngOk, mulOk, same_refl, dAdd, mG1]
      simp [tCmp', bnd, e, e2, apC, deref, dGe, g2, cd_F]
    · have q3 : ¬ ((G : Int) < (cs.length : Int)) := by omega
      exact tAnd_f (by simp [ρ1, sFun, sSeq, sRet, sRetN, sAnd, sOr, sNot, sIf, sIsi, sVar, sLit, sBin, sUn, ap2, ap1, apC, sOfT, tOfS, tCmp', tChn, tAnd', tOr', tNot', sCall, callV, sCallIO, callIO, aCons, aNil, frzs, frz, derefs, deref, sBlt, sDrop, sAsg, sAsgs, unl, unls, rN, rGo, sIfS, sNx, bnd, finE, tyName, isiN, cd_T, cd_F, cd_if, small, rngOk, mulOk, same_refl, dLen, dLt, q3])
  rw [sSeq_nx (sIf_nx c2)]
  -- w
  have t4 := sSl_take (f := sVar 1) (g := sVar 4) (ρ := ρ1) (ns := fl.map D.int) (k := W) rfl rfl rfl rfl
  rw [← List.map_take] at t4
  have l4 := sLc_ints (it := iAny (sSl (sVar 1) (pPart none) (pPart (some (sVar 4))))) (src := none) (ρ := ρ1) (ρ1 := ρ1) (ns := fl.take W) (tg := gN 7) (tt := tCmp' dGe (sVar 7) (sBin dMul (sLit (.int 10)) (sVar 4))) (te := sVar 7) (vs := [7])
    (fun x => decide (10 * (W : Int) ≤ x)) D.int (by simp [iAny, bnd, t4, walk, walkL]) rfl
    (fun x _ => by by_cases q : 10 * (W : Int) ≤ x <;> simp [ρ1, cstep, gN, nox, wipeE, sFun, sSeq, sRet, sRetN, sAnd, sOr, sNot, sIf, sIsi, sVar, sLit, sBin, sUn, ap2, ap1, apC, sOfT, tOfS, tCmp', tChn, tAnd', tOr', tNot', sCall, callV, sCallIO, callIO, aCons, aNil, frzs, frz, derefs, deref, sBlt, sDrop, sAsg, sAsgs, unl, unls, rN, rGo, sIfS, sNx, bnd, finE, tyName, isiN, cd_T, cd_F, cd_if, small, rngOk, mulOk, same_refl, dGe, dMul, q]) (by rw [List.length_take]; omega)
  rw [filter_take dF iWf.up] at l4
  have c3 : tOr' (tCmp' dNe (sSl (sVar 1) (pPart none) (pPart (some (sVar 4)))) (sLc (iAny (sSl (sVar 1) (pPart none) (pPart (some (sVar 4))))) (gN 7) (tCmp' dGe (sVar 7) (sBin dMul (sLit (.int 10)) (sVar 4))) (sVar 7) [7])) (tAnd' (tCmp' dGt (sBlt dLen (aCons (sVar 0) aNil)) (sVar 4)) (tAnd' (tCmp' dGe (sBin dIx (sVar 1) (sVar 4)) (sBin dMul (sLit (.int 10)) (sBin dAdd (sVar 4) (sLit (.int 1))))) (tCmp' dLe (sVar 4) (sVar 2)))) ρ1 = .ok false ρ1 := by
    rw [tOr_f (ρ1 := ρ1) (by simp only [tCmp', bnd, t4, l4, apC, deref, dNe_ints]; simp)]
    by_cases q2 : W < cs.length
    · have q3 : (W : Int) < (cs.length : Int) := by omega
      rw [tAnd_t (ρ1 := ρ1) (by simp [ρ1, sFun, sSeq, sRet, sRetN, sAnd, sOr, sNot, sIf, sIsi, sVar, sLit, sBin, sUn, ap2, ap1, apC, sOfT, tOfS, tCmp', tChn, tAnd', tOr', tNot', sCall, callV, sCallIO, callIO, aCons, aNil, frzs, frz, derefs, deref, sBlt, sDrop, sAsg, sAsgs, unl, unls, rN, rGo, sIfS, sNx, bnd, finE, tyName, isiN, cd_T, cd_F, cd_if, small, rngOk, mulOk, same_refl, dLen, dGt, q3])]
      have hx := List.getElem?_eq_getElem (l := fl) (i := W) (by omega)
      have q4 : ¬ (10 * ((W : Int) + 1) ≤ fl[W]'(by omega)) := fun z => by
        have := (desc_iff (t := 10 * ((W : Int) + 1)) dF hx).mp z
        have := iWf.dn; omega
      have ix := ix_int hx
      generalize fl[W]'(by omega) = x at q4 ix
      exact tAnd_f (by simp [ρ1, sFun, sSeq, sRet, sRetN, sAnd, sOr, sNot, sIf, sIsi, sVar, sLit, sBin, sUn, ap2, ap1, apC, sOfT, tOfS, tCmp', tChn, tAnd', tOr', tNot', sCall, callV, sCallIO, callIO, aCons, aNil, frzs, frz, derefs, deref, sBlt, sDrop, sAsg, sAsgs, unl, unls, rN, rGo, sIfS, sNx, bnd, finE, tyName, isiN, cd_T, cd_F, cd_if, small, rngOk, mulOk, same_refl, ix, dAdd, dMul, dGe, q4])
    · have q3 : ¬ ((W : Int) < (cs.length : Int)) := by omega
      exact tAnd_f (by simp [ρ1, sFun, sSeq, sRet, sRetN, sAnd, sOr, sNot, sIf, sIsi, sVar, sLit, sBin, sUn, ap2, ap1, apC, sOfT, tOfS, tCmp', tChn, tAnd', tOr', tNot', sCall, callV, sCallIO, callIO, aCons, aNil, frzs, frz, derefs, deref, sBlt, sDrop, sAsg, sAsgs, unl, unls, rN, rGo, sIfS, sNx, bnd, finE, tyName, isiN, cd_T, cd_F, cd_if, small, rngOk, mulOk, same_refl, dLen, dGt, q3])
  rw [sSeq_nx (sIf_nx c3)]
  -- core and tail
  obtain ⟨K, hK⟩ : ∃ K, (fl.filter fun x => decide ((H : Int) ≤ x)) = K := ⟨_, rfl⟩
  rw [hK] at vc
  let ρ2 : DEnv := [C cs, O fl, .val (.int H), .val (.int G), .val (.int W), O K, .val (.int (cs.sum - H * H)), .no]
  rw [sSeq_nx (ρ1 := ρ2) (by simp only [ρ2, ρ1]; simp [sFun, sSeq, sRet, sRetN, sAnd, sOr, sNot, sIf, sIsi, sVar, sLit, sBin, sUn, ap2, ap1, apC, sOfT, tOfS, tCmp', tChn, tAnd', tOr', tNot', sCall, callV, sCallIO, callIO, aCons, aNil, frzs, frz, derefs, deref, sBlt, sDrop, sAsg, sAsgs, unl, unls, rN, rGo, sIfS, sNx, bnd, finE, tyName, isiN, cd_T, cd_F, cd_if, small, rngOk, mulOk, same_refl, vc, vt, cd_T])]
  have l5 := sLc_ints (it := iAny (sVar 1)) (src := some (1, .lst (fl.map D.int))) (ρ := ρ2) (ρ1 := ρ2) (ns := fl) (tg := gN 7) (tt := tCmp' dGe (sVar 7) (sVar 2)) (te := sVar 7) (vs := [7])
    (fun x => decide ((H : Int) ≤ x)) D.int (by simp [ρ2, iAny, sFun, sSeq, sRet, sRetN, sAnd, sOr, sNot, sIf, sIsi, sVar, sLit, sBin, sUn, ap2, ap1, apC, sOfT, tOfS, tCmp', tChn, tAnd', tOr', tNot', sCall, callV, sCallIO, callIO, aCons, aNil, frzs, frz, derefs, deref, sBlt, sDrop, sAsg, sAsgs, unl, unls, rN, rGo, sIfS, sNx, bnd, finE, tyName, isiN, cd_T, cd_F, cd_if, small, rngOk, mulOk, same_refl, walk, walkL]) (by simp [ρ2, srcChk, wipeE, same_refl])
    (fun x _ => by by_cases q : (H : Int) ≤ x <;> simp [ρ2, cstep, gN, nox, wipeE, sFun, sSeq, sRet, sRetN, sAnd, sOr, sNot, sIf, sIsi, sVar, sLit, sBin, sUn, ap2, ap1, apC, sOfT, tOfS, tCmp', tChn, tAnd', tOr', tNot', sCall, callV, sCallIO, callIO, aCons, aNil, frzs, frz, derefs, deref, sBlt, sDrop, sAsg, sAsgs, unl, unls, rN, rGo, sIfS, sNx, bnd, finE, tyName, isiN, cd_T, cd_F, cd_if, small, rngOk, mulOk, same_refl, dGe, q]) (by omega)
  rw [hK] at l5
  have lK : K.length = Q.cnt H cs := by rw [← cntF, ← hK]; rfl
  have c4 : tOr' (tCmp' dNe (sVar 5) (sLc (iAny (sVar 1)) (gN 7) (tCmp' dGe (sVar 7) (sVar 2)) (sVar 7) [7])) (tOr' (tCmp' dNe (sVar 6) (sBin dSub (sBlt dSum (aCons (sVar 0) aNil)) (sBin dMul (sVar 2) (sVar 2)))) (tAnd' (tCmp' dGt (sVar 2) (sLit (.int 0))) (tCmp' dNe (sCall 2 F_at_least (aCons (sVar 0) (aCons (sVar 2) aNil))) (sBlt dLen (aCons (sVar 5) aNil))))) ρ2 = .ok false ρ2 := by
    have mH := dMul_ok (i := H) (j := H) (by omega) (by omega)
    have vaH := va H (by omega)
    have e1 : tCmp' dNe (sVar 5) (sLc (iAny (sVar 1)) (gN 7) (tCmp' dGe (sVar 7) (sVar 2)) (sVar 7) [7]) ρ2 = .ok false ρ2 := by
      have e : sVar 5 ρ2 = .ok (.l 5) ρ2 := rfl
      have d5 : deref (.l 5) ρ2 = some (.lst (K.map D.int)) := rfl
      simp only [tCmp', bnd, e, l5, apC, d5]
      simp [deref, dNe_ints]
    rw [tOr_f e1]
    rw [tOr_f (ρ1 := ρ2) (by simp [ρ2, sFun, sSeq, sRet, sRetN, sAnd, sOr, sNot, sIf, sIsi, sVar, sLit, sBin, sUn, ap2, ap1, apC, sOfT, tOfS, tCmp', tChn, tAnd', tOr', tNot', sCall, callV, sCallIO, callIO, aCons, aNil, frzs, frz, derefs, deref, sBlt, sDrop, sAsg, sAsgs, unl, unls, rN, rGo, sIfS, sNx, bnd, finE, tyName, isiN, cd_T, cd_F, cd_if, small, rngOk, mulOk, same_refl, dSum_ints, mH, dSub, dNe_int])]
    by_cases q : 0 < H
    · rw [tAnd_t (ρ1 := ρ2) (by simp only [ρ2]; simp [sFun, sSeq, sRet, sRetN, sAnd, sOr, sNot, sIf, sIsi, sVar, sLit, sBin, sUn, ap2, ap1, apC, sOfT, tOfS, tCmp', tChn, tAnd', tOr', tNot', sCall, callV, sCallIO, callIO, aCons, aNil, frzs, frz, derefs, deref, sBlt, sDrop, sAsg, sAsgs, unl, unls, rN, rGo, sIfS, sNx, bnd, finE, tyName, isiN, cd_T, cd_F, cd_if, small, rngOk, mulOk, same_refl, dGt, q])]
      simp [ρ2, sFun, sSeq, sRet, sRetN, sAnd, sOr, sNot, sIf, sIsi, sVar, sLit, sBin, sUn, ap2, ap1, apC, sOfT, tOfS, tCmp', tChn, tAnd', tOr', tNot', sCall, callV, sCallIO, callIO, aCons, aNil, frzs, frz, derefs, deref, sBlt, sDrop, sAsg, sAsgs, unl, unls, rN, rGo, sIfS, sNx, bnd, finE, tyName, isiN, cd_T, cd_F, cd_if, small, rngOk, mulOk, same_refl, vaH, dLen, lK, dNe_int]
    · exact tAnd_f (by simp only [ρ2]; simp [sFun, sSeq, sRet, sRetN, sAnd, sOr, sNot, sIf, sIsi, sVar, sLit, sBin, sUn, ap2, ap1, apC, sOfT, tOfS, tCmp', tChn, tAnd', tOr', tNot', sCall, callV, sCallIO, callIO, aCons, aNil, frzs, frz, derefs, deref, sBlt, sDrop, sAsg, sAsgs, unl, unls, rN, rGo, sIfS, sNx, bnd, finE, tyName, isiN, cd_T, cd_F, cd_if, small, rngOk, mulOk, same_refl, dGt, q])
  rw [sSeq_nx (sIf_nx c4)]
  -- takes_h
  have w1 : (decide (0 ≤ (H : Int)) && decide ((H : Int) ≤ Q.cnt H cs) && decide ((Q.cnt ((H : Int) + 1) cs : Int) ≤ H)) = true := by
    have := iH.up; have := iH.dn
    simp; omega
  have w2 : (decide (0 ≤ (H : Int) + 1) && decide ((H : Int) + 1 ≤ Q.cnt ((H : Int) + 1) cs) && decide ((Q.cnt ((H : Int) + 1 + 1) cs : Int) ≤ (H : Int) + 1)) = false := by
    have := iH.dn
    simp; omega
  have w3 : ¬ (H : Int) = 0 → (decide (0 ≤ (H : Int) - 1) && decide ((H : Int) - 1 ≤ Q.cnt ((H : Int) - 1) cs) && decide ((Q.cnt ((H : Int) - 1 + 1) cs : Int) ≤ (H : Int) - 1)) = false := by
    intro q
    have := iH.up
    rw [show (H : Int) - 1 + 1 = H by omega]
    simp; omega
  have v1 := vT H
  rw [w1] at v1
  have v2 := vT ((H : Int) + 1)
  rw [w2] at v2
  have dq2 : dEq (.int (H : Int)) (.int (H : Int)) = some true := by rw [dEq_int]; simp
  by_cases q0 : H = 0
  · have dq : dEq (.int (H : Int)) (.int 0) = some true := by rw [dEq_int]; simp [q0]
    have q : (H : Int) = 0 := by omega
    exact ⟨[C cs, C fl, .val (.int H), .val (.int G), .val (.int W), O K, .val (.int (cs.sum - H * H)), .no], by simp only [ρ2]; simp [sFun, sSeq, sRet, sRetN, sAnd, sOr, sNot, sIf, sIsi, sVar, sLit, sBin, sUn, ap2, ap1, apC, sOfT, tOfS, tCmp', tChn, tAnd', tOr', tNot', sCall, callV, sCallIO, callIO, aCons, aNil, frzs, frz, derefs, deref, sBlt, sDrop, sAsg, sAsgs, unl, unls, rN, rGo, sIfS, sNx, bnd, finE, tyName, isiN, cd_T, cd_F, cd_if, small, rngOk, mulOk, same_refl, v1, v2, vhf, dIs, dAdd, dq, dq2]⟩
  · have dq : dEq (.int (H : Int)) (.int 0) = some false := by rw [dEq_int]; simp [q0]
    have q : ¬ (H : Int) = 0 := by omega
    have v3 := vT ((H : Int) - 1)
    rw [w3 q] at v3
    exact ⟨[C cs, C fl, .val (.int H), .val (.int G), .val (.int W), O K, .val (.int (cs.sum - H * H)), .no], by simp only [ρ2]; simp [sFun, sSeq, sRet, sRetN, sAnd, sOr, sNot, sIf, sIsi, sVar, sLit, sBin, sUn, ap2, ap1, apC, sOfT, tOfS, tCmp', tChn, tAnd', tOr', tNot', sCall, callV, sCallIO, callIO, aCons, aNil, frzs, frz, derefs, deref, sBlt, sDrop, sAsg, sAsgs, unl, unls, rN, rGo, sIfS, sNx, bnd, finE, tyName, isiN, cd_T, cd_F, cd_if, small, rngOk, mulOk, same_refl, v1, v2, v3, vhf, dIs, dAdd, dSub, dq, dq2]⟩
end L2.DL.W

namespace L2.DL.W
open PySem PySem.Spec PyProof.Rows L2 L2.DL L2.DL.Q
theorem dNe_bl (a b : Bool) : dNe (.bl a) (.bl b) = some (!(a == b)) := by
  cases a <;> cases b <;> rfl
theorem dNe_nil : dNe (.lst []) (.lst []) = some false := rfl
theorem dNe_emp (o : List Int) : dNe (.lst (o.map D.int)) (.lst []) = some (!decide (o = [])) := by
  have := dNe_ints o []
  simpa using this
theorem dMin_ii (i j : Int) : dMin [.int i, .int j] = some (.v (.int (if j < i then j else i))) := by
  show some (Rv.v (.int (if cd (j < i) = true then j else i))) = _
  rw [cd_if]
theorem sum_set {o : List Int} {i : Nat} {x y : Int} (h : o[i]? = some x) : (o.set i y).sum = o.sum - x + y := by
  induction o generalizing i with
  | nil => simp at h
  | cons z o ih =>
    cases i with
    | zero => simp at h; subst h; simp [List.set]; omega
    | succ i =>
      have := ih (i := i) (by simpa using h)
      simp [List.set]; omega
theorem hI_eq {cs : List Int} {M : Nat} (h : IsH cs M) : hI cs = M := (hI_is cs).one h
/-- one more is put -/
structure Put (cs : List Int) (more : Int) (o : List Int) (left : Int) : Prop where
  up : Upon cs o
  hi : ∀ c ∈ o, c ≤ 1000000
  nn : ∀ c ∈ o, 0 ≤ c
  lf : 0 ≤ left
  sm : o.sum - cs.sum ≤ more - left
theorem Put.cts {cs : List Int} {more : Int} {o : List Int} {left : Int} (p : Put cs more o left) (hc : Cts cs) : Cts o := ⟨by rw [← p.up.len]; exact hc.len, p.nn, p.hi⟩
theorem Put.set {cs : List Int} {more : Int} {o : List Int} {left : Int} (p : Put cs more o left) {i : Nat} {x m : Int} (h : o[i]? = some x) (h0 : 0 ≤ m) (h1 : m ≤ left) : Put cs more (o.set i (if x + m < 1000000 then x + m else 1000000)) (left - m) := by
  have hx := p.hi x (List.mem_of_getElem? h)
  have hn := p.nn x (List.mem_of_getElem? h)
  refine ⟨p.up.set h (by split <;> omega), fun c hc => ?_, fun c hc => ?_, by omega, ?_⟩
  · rcases List.mem_or_eq_of_mem_set hc with q | q
    · exact p.hi c q
    · subst q; split <;> omega
  · rcases List.mem_or_eq_of_mem_set hc with q | q
    · exact p.nn c q
    · subst q; split <;> omega
  · rw [sum_set h]
    have := p.sm
    split <;> omega
theorem turn_ex {cs : List Int} (hc : Cts cs) (more : Int) (a2 a3 a4 a5 a6 a12 a13 a14 : Cell) {ds o : List Int} {left : Int} {a9 a10 a11 : Cell} (p : Put cs more o left) :
    ∃ (ds' o' : List Int) (left' : Int) (b9 b10 b11 : Cell), sFor (fxs [0]) (iRange1 (sCallIO 2 F__law_take (aCons (sVar 0) (aCons (sLit (.int 9)) (aNil))))) (gN 9) (sIfS (tCmp' dNe (sVar 7) (sLst (aNil))) (sSeq (sAsgs [rN 10, rN 11] (aCons (sCallIO 2 F__law_take (aCons (sVar 0) (aCons (sBlt dMax (aCons (sLit (.int 1)) (aCons (sBlt dLen (aCons (sVar 7) (aNil))) (aNil)))) (aNil)))) (aCons (sCallIO 2 F__law_take (aCons (sVar 0) (aCons (sBin dAdd (sVar 8) (sLit (.int 1))) (aNil)))) (aNil)))) (sAsgs [rSub 7 (sVar 10) upLst, rN 8] (aCons (sBlt dMin (aCons (sBin dPow (sLit (.int 10)) (sLit (.int 6))) (aCons (sBin dAdd (sBin dIx (sVar 7) (sVar 10)) (sVar 11)) (aNil)))) (aCons (sBin dSub (sVar 8) (sVar 11)) (aNil))))) (sNx))
      [O ds, C cs, a2, a3, a4, a5, a6, O o, .val (.int left), a9, a10, a11, a12, a13, a14] = .ok .nx [O ds', C cs, a2, a3, a4, a5, a6, O o', .val (.int left'), b9, b10, b11, a12, a13, a14] ∧ Put cs more o' left' := by
  obtain ⟨n, ds1, e1, n0, n1⟩ := take_ex ds (b := 9) (by omega)
  have key := sFor_inv (fxL := fxs [0]) (it := iRange1 (sCallIO 2 F__law_take (aCons (sVar 0) (aCons (sLit (.int 9)) (aNil))))) (tg := gN 9)
    (body := (sIfS (tCmp' dNe (sVar 7) (sLst (aNil))) (sSeq (sAsgs [rN 10, rN 11] (aCons (sCallIO 2 F__law_take (aCons (sVar 0) (aCons (sBlt dMax (aCons (sLit (.int 1)) (aCons (sBlt dLen (aCons (sVar 7) (aNil))) (aNil)))) (aNil)))) (aCons (sCallIO 2 F__law_take (aCons (sVar 0) (aCons (sBin dAdd (sVar 8) (sLit (.int 1))) (aNil)))) (aNil)))) (sAsgs [rSub 7 (sVar 10) upLst, rN 8] (aCons (sBlt dMin (aCons (sBin dPow (sLit (.int 10)) (sLit (.int 6))) (aCons (sBin dAdd (sBin dIx (sVar 7) (sVar 10)) (sVar 11)) (aNil)))) (aCons (sBin dSub (sVar 8) (sVar 11)) (aNil))))) (sNx)))
    (l := upFrom 0 n.toNat) (ρ := [O ds, C cs, a2, a3, a4, a5, a6, O o, .val (.int left), a9, a10, a11, a12, a13, a14]) (ρ1 := [O ds1, C cs, a2, a3, a4, a5, a6, O o, .val (.int left), a9, a10, a11, a12, a13, a14])
    (fun _ ρ => ∃ (ds o : List Int) (left : Int) (a9 a10 a11 : Cell), ρ = [O ds, C cs, a2, a3, a4, a5, a6, O o, .val (.int left), a9, a10, a11, a12, a13, a14] ∧ Put cs more o left)
    (iR1_ok (r := .v (.int n)) (by simp [sFun, sSeq, sRet, sRetN, sAnd, sOr, sNot, sIf, sIsi, sVar, sLit, sBin, sUn, ap2, ap1, apC, sOfT, tOfS, tCmp', tChn, tAnd', tOr', tNot', sCall, callV, sCallIO, callIO, aCons, aNil, frzs, frz, derefs, deref, sBlt, sDrop, sAsg, sAsgs, unl, unls, rN, rGo, sIfS, sNx, bnd, finE, tyName, isiN, cd_T, cd_F, cd_if, small, rngOk, mulOk, same_refl, e1]) rfl n0 (by omega)) (fun i d ρ hd hp => by
      obtain ⟨hi, rfl⟩ := upFrom_get' hd
      obtain ⟨ds, o, left, a9, a10, a11, rfl, p⟩ := hp
      by_cases ho : o = []
      · subst ho
        exact ⟨.nx, [O ds, C cs, a2, a3, a4, a5, a6, O [], .val (.int left), .val (.int (0 + i)), a10, a11, a12, a13, a14], by simp [gN, sFun, sSeq, sRet, sRetN, sAnd, sOr, sNot, sIf, sIsi, sVar, sLit, sBin, sUn, ap2, ap1, apC, sOfT, tOfS, tCmp', tChn, tAnd', tOr', tNot', sCall, callV, sCallIO, callIO, aCons, aNil, frzs, frz, derefs, deref, sBlt, sDrop, sAsg, sAsgs, unl, unls, rN, rGo, sIfS, sNx, bnd, finE, tyName, isiN, cd_T, cd_F, cd_if, small, rngOk, mulOk, same_refl, sLst, dNe_nil], .inl rfl, ds, [], left, _, _, _, rfl, p⟩
      · have hl : 0 < o.length := List.length_pos_iff.mpr ho
        have hl2 : o.length ≤ 500 := (p.cts hc).len
        have mxe : dMax [.int 1, .int o.length] = some (.v (.int o.length)) := by
          rw [dMax_ii]
          by_cases q : (o.length : Int) > 1
          · rw [if_pos q]
          · rw [if_neg q, show (1 : Int) = o.length by omega]
        obtain ⟨t, ds2, e2, t0, t1⟩ := take_ex ds (b := o.length) (by omega)
        obtain ⟨m, ds3, e3, m0, m1⟩ := take_ex ds2 (b := left + 1) (by have := p.lf; omega)
        obtain ⟨k, rfl⟩ := Int.eq_ofNat_of_zero_le t0
        have hk : k < o.length := by omega
        have hx := List.getElem?_eq_getElem hk
        have pp := p.set hx m0 (by omega)
        have ix := ix_int hx
        generalize o[k] = x at hx pp ix
        have mn := dMin_ii 1000000 (x + m)
        generalize (if x + m < 1000000 then x + m else 1000000) = v at mn pp
        have up : upLst (.lst (o.map D.int)) (.int (k : Int)) (.int v) = some (.lst ((o.set k v).map D.int)) := by
          show (match ixN (o.map D.int).length (k : Int) with | some j => some (D.lst ((o.map D.int).set j (.int v))) | none => none) = _
          rw [ixN_nat (by rw [List.length_map]; exact hk)]
          show some (D.lst ((o.map D.int).set k (.int v))) = _
          rw [List.map_set]
        have dn := dNe_emp o
        rw [decide_eq_false ho] at dn
        have ln : dLen [.lst (o.map D.int)] = some (.v (.int o.length)) := by simp [dLen]
        generalize o.set k v = o2 at pp up
        have pw : dPow (.int 10) (.int 6) = some (.v (.int 1000000)) := by simp [dPow, cd_T]
        refine ⟨.nx, [O ds3, C cs, a2, a3, a4, a5, a6, O o2, .val (.int (left - m)), .val (.int (0 + i)), .val (.int k), .val (.int m), a12, a13, a14], ?_, .inl rfl, ds3, o2, _, _, _, _, rfl, pp⟩
        show sIfS _ _ _ [O ds, C cs, a2, a3, a4, a5, a6, O o, .val (.int left), .val (.int (0 + i)), a10, a11, a12, a13, a14] = _
        rw [sIf_yes (ρ1 := [O ds, C cs, a2, a3, a4, a5, a6, O o, .val (.int left), .val (.int (0 + i)), a10, a11, a12, a13, a14]) (by simp [sFun, sSeq, sRet, sRetN, sAnd, sOr, sNot, sIf, sIsi, sVar, sLit, sBin, sUn, ap2, ap1, apC, sOfT, tOfS, tCmp', tChn, tAnd', tOr', tNot', sCall, callV, sCallIO, callIO, aCons, aNil, frzs, frz, derefs, deref, sBlt, sDrop, sAsg, sAsgs, unl, unls, rN, rGo, sIfS, sNx, bnd, finE, tyName, isiN, cd_T, cd_F, cd_if, small, rngOk, mulOk, same_refl, sLst, dn])]
        rw [sSeq_nx (ρ1 := [O ds3, C cs, a2, a3, a4, a5, a6, O o, .val (.int left), .val (.int (0 + i)), .val (.int k), .val (.int m), a12, a13, a14]) (by simp [sFun, sSeq, sRet, sRetN, sAnd, sOr, sNot, sIf, sIsi, sVar, sLit, sBin, sUn, ap2, ap1, apC, sOfT, tOfS, tCmp', tChn, tAnd', tOr', tNot', sCall, callV, sCallIO, callIO, aCons, aNil, frzs, frz, derefs, deref, sBlt, sDrop, sAsg, sAsgs, unl, unls, rN, rGo, sIfS, sNx, bnd, finE, tyName, isiN, cd_T, cd_F, cd_if, small, rngOk, mulOk, same_refl, ln, mxe, e2, dAdd, e3])]
        simp [sFun, sSeq, sRet, sRetN, sAnd, sOr, sNot, sIf, sIsi, sVar, sLit, sBin, sUn, ap2, ap1, apC, sOfT, tOfS, tCmp', tChn, tAnd', tOr', tNot', sCall, callV, sCallIO, callIO, aCons, aNil, frzs, frz, derefs, deref, sBlt, sDrop, sAsg, sAsgs, unl, unls, rN, rGo, sIfS, sNx, bnd, finE, tyName, isiN, cd_T, cd_F, cd_if, small, rngOk, mulOk, same_refl, ix, dAdd, pw, mn, dSub, rSub, up]) ⟨ds1, o, left, _, _, _, rfl, p⟩
  obtain ⟨ρ', e, ds', o', left', b9, b10, b11, rfl, p'⟩ := key
  exact ⟨ds', o', left', b9, b10, b11, e, p'⟩
end L2.DL.W

namespace L2.DL.W
open PySem PySem.Spec PyProof.Rows L2 L2.DL L2.DL.Q
theorem is_put {cs : List Int} (hc : Cts cs) (ds : List Int) : ∃ ds', F__law_is_put [O ds, C cs] = .ok (.v (.bl true)) [O ds', .no] := by
  have h1 := hc.len
  obtain ⟨x, d1, e1, hx⟩ := pick_ex ds [5, 100, 5000] (by simp)
  have hx0 : 0 < x := by simp at hx; omega
  obtain ⟨more, d2, e2, m0, m1⟩ := take_ex d1 (b := x) hx0
  have iH := hI_is cs
  obtain ⟨iM, vM⟩ := mI_is hc m0
  have vW := fun (n : Int) (hn : 0 ≤ n) => v_h_with (more := n) hc hn
  have mW := fun (n : Int) (hn : 0 ≤ n) => (mI_is (more := n) hc hn).1
  have vP := put_ex hc m0
  have pF := fnd_best (cs := cs) (M := mI cs more)
  have gF := fun {i : Nat} {c : Int} => fnd_get (cs := cs) (M := mI cs more) (k := mI cs more) (i := i) (c := c)
  have lF := fnd_len (cs := cs) (M := mI cs more) (k := mI cs more)
  have vWm := vW more m0
  have vh := v_h_of hc
  have vg := v_g_of hc
  have vw := v_w_of hc
  have vn := fun b => v_next_step hc b
  have iG := (gI_is hc).1
  have iW := wI_is cs
  have bH := best_h iH iM
  have bS := best_sum (l := cs) (M := mI cs more)
  have srt1 := dSorted_ints cs (by omega)
  have eF : fal cs = (srt cs).reverse := rfl
  have lz : hI cs + 1 ≤ cs.length → lack (cs ++ [0]) (hI cs + 1) = lack cs (hI cs + 1) := fun q => lack_zero' hc.nn q
  generalize fnd cs (mI cs more) (mI cs more) = f at *
  generalize hM : mI cs more = M at *
  have hMl := iM.le
  have fh : IsH f M := bH.perm pF.symm
  have fs : f.sum - cs.sum ≤ more := by rw [perm_sum pF, bS]; exact iM.fit
  have ff : Cts f := ⟨by omega, fun c hcf => by
      obtain ⟨i, hi, rfl⟩ := List.getElem_of_mem hcf
      obtain ⟨y, y1, y2, y3⟩ := gF (i := i) (List.getElem?_eq_getElem (by omega))
      rw [List.getElem?_eq_getElem hi] at y1; cases y1
      have := hc.nn _ (List.getElem_mem (l := cs) (n := i) (by omega))
      omega, fun c hcf => by
      obtain ⟨i, hi, rfl⟩ := List.getElem_of_mem hcf
      obtain ⟨y, y1, y2, y3⟩ := gF (i := i) (List.getElem?_eq_getElem (by omega))
      rw [List.getElem?_eq_getElem hi] at y1; cases y1
      have := hc.hi _ (List.getElem_mem (l := cs) (n := i) (by omega))
      omega⟩
  have vhf := v_h_of ff
  rw [hI_eq fh] at vhf
  suffices h : ∃ (ds' : List Int) (ρ : DEnv), g__law_is_put [O ds, C cs, .no, .no, .no, .no, .no, .no, .no, .no, .no, .no, .no, .no, .no] = .ok (.ret (.v (.bl true))) (O ds' :: ρ) by
    obtain ⟨ds', ρ, e⟩ := h
    exact ⟨ds', sFun_ret (n := 2) (N := 15) (io := true) (f := g__law_is_put) (ρ := [O ds, C cs]) e fun i z => by cases z⟩
  unfold g__law_is_put
  rw [sSeq_nx (ρ1 := [O d2, C cs, .val (.int more), .no, .no, .no, .no, .no, .no, .no, .no, .no, .no, .no, .no]) (by
    simp only [List.map_cons, List.map_nil] at e1
    simp [sFun, sSeq, sRet, sRetN, sAnd, sOr, sNot, sIf, sIsi, sVar, sLit, sBin, sUn, ap2, ap1, apC, sOfT, tOfS, tCmp', tChn, tAnd', tOr', tNot', sCall, callV, sCallIO, callIO, aCons, aNil, frzs, frz, derefs, deref, sBlt, sDrop, sAsg, sAsgs, unl, unls, rN, rGo, sIfS, sNx, bnd, finE, tyName, isiN, cd_T, cd_F, cd_if, small, rngOk, mulOk, same_refl, sLst, e1, e2])]
  rw [sSeq_nx (ρ1 := [O d2, C cs, .val (.int more), .val (.int M), O f, .no, .no, .no, .no, .no, .no, .no, .no, .no, .no]) (by simp [sFun, sSeq, sRet, sRetN, sAnd, sOr, sNot, sIf, sIsi, sVar, sLit, sBin, sUn, ap2, ap1, apC, sOfT, tOfS, tCmp', tChn, tAnd', tOr', tNot', sCall, callV, sCallIO, callIO, aCons, aNil, frzs, frz, derefs, deref, sBlt, sDrop, sAsg, sAsgs, unl, unls, rN, rGo, sIfS, sNx, bnd, finE, tyName, isiN, cd_T, cd_F, cd_if, small, rngOk, mulOk, same_refl, vWm, vP, cd_T])]
  -- the best putting
  have lc := sLc_inv (it := iRange1 (sBlt dLen (aCons (sVar 4) (aNil)))) (src := none) (tg := gN 9) (tt := tCmp' dLt (sBin dIx (sVar 4) (sVar 9)) (sBin dIx (sVar 1) (sVar 9))) (te := sVar 9) (vs := [9])
    (ρ := [O d2, C cs, .val (.int more), .val (.int M), C f, .no, .no, .no, .no, .no, .no, .no, .no, .no, .no]) (ρ1 := [O d2, C cs, .val (.int more), .val (.int M), C f, .no, .no, .no, .no, .no, .no, .no, .no, .no, .no]) (l := upFrom 0 f.length)
    (fun acc ρ => acc = [] ∧ ρ = [O d2, C cs, .val (.int more), .val (.int M), C f, .no, .no, .no, .no, .no, .no, .no, .no, .no, .no])
    (by
      have := iR1_ok (f := sBlt dLen (aCons (sVar 4) (aNil))) (r := .v (.int f.length)) (ρ := [O d2, C cs, .val (.int more), .val (.int M), C f, .no, .no, .no, .no, .no, .no, .no, .no, .no, .no]) (ρ1 := [O d2, C cs, .val (.int more), .val (.int M), C f, .no, .no, .no, .no, .no, .no, .no, .no, .no, .no]) (n := f.length) (by simp [sFun, sSeq, sRet, sRetN, sAnd, sOr, sNot, sIf, sIsi, sVar, sLit, sBin, sUn, ap2, ap1, apC, sOfT, tOfS, tCmp', tChn, tAnd', tOr', tNot', sCall, callV, sCallIO, callIO, aCons, aNil, frzs, frz, derefs, deref, sBlt, sDrop, sAsg, sAsgs, unl, unls, rN, rGo, sIfS, sNx, bnd, finE, tyName, isiN, cd_T, cd_F, cd_if, small, rngOk, mulOk, same_refl, dLen]) rfl (by omega) (by omega)
      rwa [Int.toNat_natCast] at this)
    (fun _ _ _ => rfl) (fun d hd acc ρ ⟨a1, a2⟩ => by
      subst a1; subst a2
      obtain ⟨i, hi⟩ := List.getElem?_of_mem hd
      obtain ⟨i1, rfl⟩ := upFrom_get' hi
      have c1 := List.getElem?_eq_getElem (l := cs) (i := i) (by omega)
      obtain ⟨y, y1, y2, _⟩ := gF c1
      have x1 := ix_int c1
      have x2 := ix_int y1
      generalize cs[i]'(by omega) = c at x1 y2
      have q : ¬ y < c := by omega
      refine ⟨none, _, ?_, rfl, rfl⟩
      simp [cstep, gN, nox, wipeE, sFun, sSeq, sRet, sRetN, sAnd, sOr, sNot, sIf, sIsi, sVar, sLit, sBin, sUn, ap2, ap1, apC, sOfT, tOfS, tCmp', tChn, tAnd', tOr', tNot', sCall, callV, sCallIO, callIO, aCons, aNil, frzs, frz, derefs, deref, sBlt, sDrop, sAsg, sAsgs, unl, unls, rN, rGo, sIfS, sNx, bnd, finE, tyName, isiN, cd_T, cd_F, cd_if, small, rngOk, mulOk, same_refl, x1, x2, dLt, q]) ⟨rfl, by simp [wipeE]⟩ (by rw [upFrom_len]; omega)
  obtain ⟨acc, ρa, elc, ⟨rfl, rfl⟩, _⟩ := lc
  simp [backE] at elc
  have c1 : tOr' (tCmp' dNe (sBlt dLen (aCons (sVar 4) (aNil))) (sBlt dLen (aCons (sVar 1) (aNil)))) (tOr' (tCmp' dNe (sCall 1 F_h_of (aCons (sVar 4) (aNil))) (sVar 3)) (tOr' (tCmp' dGt (sBin dSub (sBlt dSum (aCons (sVar 4) (aNil))) (sBlt dSum (aCons (sVar 1) (aNil)))) (sVar 2)) (tCmp' dNe (sLc (iRange1 (sBlt dLen (aCons (sVar 4) (aNil)))) (gN 9) (tCmp' dLt (sBin dIx (sVar 4) (sVar 9)) (sBin dIx (sVar 1) (sVar 9))) (sVar 9) [9]) (sLst (aNil))))) [O d2, C cs, .val (.int more), .val (.int M), O f, .no, .no, .no, .no, .no, .no, .no, .no, .no, .no]
      = .ok false [O d2, C cs, .val (.int more), .val (.int M), C f, .no, .no, .no, .no, .no, .no, .no, .no, .no, .no] := by
    rw [tOr_f (ρ1 := [O d2, C cs, .val (.int more), .val (.int M), O f, .no, .no, .no, .no, .no, .no, .no, .no, .no, .no]) (by simp [sFun, sSeq, sRet, sRetN, sAnd, sOr, sNot, sIf, sIsi, sVar, sLit, sBin, sUn, ap2, ap1, apC, sOfT, tOfS, tCmp', tChn, tAnd', tOr', tNot', sCall, callV, sCallIO, callIO, aCons, aNil, frzs, frz, derefs, deref, sBlt, sDrop, sAsg, sAsgs, unl, unls, rN, rGo, sIfS, sNx, bnd, finE, tyName, isiN, cd_T, cd_F, cd_if, small, rngOk, mulOk, same_refl, dLen, dNe_int, lF])]
    rw [tOr_f (ρ1 := [O d2, C cs, .val (.int more), .val (.int M), C f, .no, .no, .no, .no, .no, .no, .no, .no, .no, .no]) (by simp [sFun, sSeq, sRet, sRetN, sAnd, sOr, sNot, sIf, sIsi, sVar, sLit, sBin, sUn, ap2, ap1, apC, sOfT, tOfS, tCmp', tChn, tAnd', tOr', tNot', sCall, callV, sCallIO, callIO, aCons, aNil, frzs, frz, derefs, deref, sBlt, sDrop, sAsg, sAsgs, unl, unls, rN, rGo, sIfS, sNx, bnd, finE, tyName, isiN, cd_T, cd_F, cd_if, small, rngOk, mulOk, same_refl, vhf, dNe_int])]
    have q : ¬ (more < f.sum - cs.sum) := by omega
    rw [tOr_f (ρ1 := [O d2, C cs, .val (.int more), .val (.int M), C f, .no, .no, .no, .no, .no, .no, .no, .no, .no, .no]) (by simp [sFun, sSeq, sRet, sRetN, sAnd, sOr, sNot, sIf, sIsi, sVar, sLit, sBin, sUn, ap2, ap1, apC, sOfT, tOfS, tCmp', tChn, tAnd', tOr', tNot', sCall, callV, sCallIO, callIO, aCons, aNil, frzs, frz, derefs, deref, sBlt, sDrop, sAsg, sAsgs, unl, unls, rN, rGo, sIfS, sNx, bnd, finE, tyName, isiN, cd_T, cd_F, cd_if, small, rngOk, mulOk, same_refl, dSum_ints, dSub, dGt, q])]
    simp [tCmp', bnd, elc, sLst, aNil, frzs, small, cd_T, apC, deref, dNe_nil]
  rw [sSeq_nx (sIf_nx c1)]
  -- more does not fit
  let ρ3 : DEnv := [O d2, C cs, .val (.int more), .val (.int M), C f, O (fal cs), .no, .no, .no, .no, .no, .no, .no, .no, .no]
  rw [sSeq_nx (ρ1 := ρ3) (by simp only [ρ3, eF]; simp [sRev, sFun, sSeq, sRet, sRetN, sAnd, sOr, sNot, sIf, sIsi, sVar, sLit, sBin, sUn, ap2, ap1, apC, sOfT, tOfS, tCmp', tChn, tAnd', tOr', tNot', sCall, callV, sCallIO, callIO, aCons, aNil, frzs, frz, derefs, deref, sBlt, sDrop, sAsg, sAsgs, unl, unls, rN, rGo, sIfS, sNx, bnd, finE, tyName, isiN, cd_T, cd_F, cd_if, small, rngOk, mulOk, same_refl, srt1])]
  have t3 := sSl_take (f := sVar 5) (g := sBin dAdd (sVar 3) (sLit (.int 1))) (ρ := ρ3) (ns := (fal cs).map D.int) (k := M + 1) rfl rfl rfl rfl
  rw [← List.map_take] at t3
  have l3 := sLc_ints (it := iAny (sSl (sVar 5) (pPart none) (pPart (some (sBin dAdd (sVar 3) (sLit (.int 1))))))) (src := none) (ρ := ρ3) (ρ1 := ρ3) (ns := (fal cs).take (M + 1)) (tg := gN 14) (tt := tYesD) (te := (sBlt dMax (aCons (sLit (.int 0)) (aCons (sBin dSub (sBin dAdd (sVar 3) (sLit (.int 1))) (sVar 14)) (aNil))))) (vs := [14])
    (fun _ => true) (fun x => D.int (gap ((M + 1 : Nat) : Int) x)) (by simp [iAny, bnd, t3, walk, walkL]) rfl
    (fun x _ => by simp [ρ3, cstep, gN, nox, tYesD, wipeE, sFun, sSeq, sRet, sRetN, sAnd, sOr, sNot, sIf, sIsi, sVar, sLit, sBin, sUn, ap2, ap1, apC, sOfT, tOfS, tCmp', tChn, tAnd', tOr', tNot', sCall, callV, sCallIO, callIO, aCons, aNil, frzs, frz, derefs, deref, sBlt, sDrop, sAsg, sAsgs, unl, unls, rN, rGo, sIfS, sNx, bnd, finE, tyName, isiN, cd_T, cd_F, cd_if, small, rngOk, mulOk, same_refl, dAdd, dSub, dMax_ii, gap]) (by rw [List.length_take, fal_len]; omega)
  rw [List.filter_eq_self.mpr fun _ _ => rfl] at l3
  have e3 : ((fal cs).take (M + 1)).map (fun x => D.int (gap ((M + 1 : Nat) : Int) x)) = (((fal cs).take (M + 1)).map (gap ((M + 1 : Nat) : Int))).map D.int := by rw [List.map_map]; rfl
  rw [e3] at l3
  have e4 := dSum_ints (((fal cs).take (M + 1)).map (gap ((M + 1 : Nat) : Int)))
  have e5 : (((fal cs).take (M + 1)).map (gap ((M + 1 : Nat) : Int))).sum = lack cs (M + 1) := rfl
  rw [e5] at e4
  generalize (((fal cs).take (M + 1)).map (gap ((M + 1 : Nat) : Int))).map D.int = T at l3 e4
  have c2 : tAnd' (tCmp' dLt (sVar 3) (sBlt dLen (aCons (sVar 1) (aNil)))) (tCmp' dLe (sBlt dSum (aCons (sLc (iAny (sSl (sVar 5) (pPart none) (pPart (some (sBin dAdd (sVar 3) (sLit (.int 1))))))) (gN 14) (tYesD) (sBlt dMax (aCons (sLit (.int 0)) (aCons (sBin dSub (sBin dAdd (sVar 3) (sLit (.int 1))) (sVar 14)) (aNil)))) [14]) (aNil))) (sVar 2)) ρ3 = .ok false ρ3 := by
    by_cases q2 : M < cs.length
    · have q3 : (M : Int) < (cs.length : Int) := by omega
      rw [tAnd_t (ρ1 := ρ3) (by simp [ρ3, sFun, sSeq, sRet, sRetN, sAnd, sOr, sNot, sIf, sIsi, sVar, sLit, sBin, sUn, ap2, ap1, apC, sOfT, tOfS, tCmp', tChn, tAnd', tOr', tNot', sCall, callV, sCallIO, callIO, aCons, aNil, frzs, frz, derefs, deref, sBlt, sDrop, sAsg, sAsgs, unl, unls, rN, rGo, sIfS, sNx, bnd, finE, tyName, isiN, cd_T, cd_F, cd_if, small, rngOk, mulOk, same_refl, dLen, dLt, q3])]
      have q4 : ¬ (lack cs (M + 1) ≤ more) := by
        rcases iM.top with z | z <;> omega
      have e : (sBlt dSum (aCons (sLc (iAny (sSl (sVar 5) (pPart none) (pPart (some (sBin dAdd (sVar 3) (sLit (.int 1))))))) (gN 14) (tYesD) (sBlt dMax (aCons (sLit (.int 0)) (aCons (sBin dSub (sBin dAdd (sVar 3) (sLit (.int 1))) (sVar 14)) (aNil)))) [14]) (aNil))) ρ3 = .ok (.v (.int (lack cs (M + 1)))) ρ3 := by
        simp [sBlt, aCons, aNil, bnd, l3, derefs, deref, e4]
      have ev : sVar 2 ρ3 = .ok (.v (.int more)) ρ3 := rfl
      simp [tCmp', bnd, e, ev, apC, deref, dLe, q4, cd_F]
    · have q3 : ¬ ((M : Int) < (cs.length : Int)) := by omega
      exact tAnd_f (by simp [ρ3, sFun, sSeq, sRet, sRetN, sAnd, sOr, sNot, sIf, sIsi, sVar, sLit, sBin, sUn, ap2, ap1, apC, sOfT, tOfS, tCmp', tChn, tAnd', tOr', tNot', sCall, callV, sCallIO, callIO, aCons, aNil, frzs, frz, derefs, deref, sBlt, sDrop, sAsg, sAsgs, unl, unls, rN, rGo, sIfS, sNx, bnd, finE, tyName, isiN, cd_T, cd_F, cd_if, small, rngOk, mulOk, same_refl, dLen, dLt, q3])
  rw [sSeq_nx (sIf_nx c2)]
  -- the turns
  have turns : ∃ ρ', sFor (fxs [0]) (iRange1 (sLit (.int 5))) (gN 6) (sSeq (sAsgs [rN 7, rN 8] (aCons (sBlt dList (aCons (sVar 1) (aNil))) (aCons (sVar 2) (aNil)))) (sSeq (sFor (fxs [0]) (iRange1 (sCallIO 2 F__law_take (aCons (sVar 0) (aCons (sLit (.int 9)) (aNil))))) (gN 9) (sIfS (tCmp' dNe (sVar 7) (sLst (aNil))) (sSeq (sAsgs [rN 10, rN 11] (aCons (sCallIO 2 F__law_take (aCons (sVar 0) (aCons (sBlt dMax (aCons (sLit (.int 1)) (aCons (sBlt dLen (aCons (sVar 7) (aNil))) (aNil)))) (aNil)))) (aCons (sCallIO 2 F__law_take (aCons (sVar 0) (aCons (sBin dAdd (sVar 8) (sLit (.int 1))) (aNil)))) (aNil)))) (sAsgs [rSub 7 (sVar 10) upLst, rN 8] (aCons (sBlt dMin (aCons (sBin dPow (sLit (.int 10)) (sLit (.int 6))) (aCons (sBin dAdd (sBin dIx (sVar 7) (sVar 10)) (sVar 11)) (aNil)))) (aCons (sBin dSub (sVar 8) (sVar 11)) (aNil))))) (sNx))) (sIfS (tOr' (tCmp' dGt (sCall 1 F_h_of (aCons (sVar 7) (aNil))) (sVar 3)) (tOr' (tCmp' dLt (sCall 1 F_h_of (aCons (sVar 7) (aNil))) (sCall 1 F_h_of (aCons (sVar 1) (aNil)))) (tOr' (tCmp' dLt (sCall 1 F_g_of (aCons (sVar 7) (aNil))) (sCall 1 F_g_of (aCons (sVar 1) (aNil)))) (tCmp' dLt (sCall 1 F_w_of (aCons (sVar 7) (aNil))) (sCall 1 F_w_of (aCons (sVar 1) (aNil))))))) (sRet (fxs [0]) (sLit (.bl false))) (sNx)))) ρ3 = .ok .nx ρ' ∧
      ∃ (ds : List Int) (a6 a7 a8 a9 a10 a11 : Cell), ρ' = [O ds, C cs, .val (.int more), .val (.int M), C f, O (fal cs), a6, a7, a8, a9, a10, a11, .no, .no, .no] := by
    refine sFor_inv (fun _ ρ => ∃ (ds : List Int) (a6 a7 a8 a9 a10 a11 : Cell), ρ = [O ds, C cs, .val (.int more), .val (.int M), C f, O (fal cs), a6, a7, a8, a9, a10, a11, .no, .no, .no]) (l := upFrom 0 5) (iR1_ok (n := 5) (r := .v (.int 5)) rfl rfl (by omega) (by omega)) (fun i d ρ hd hp => by
      obtain ⟨hi, rfl⟩ := upFrom_get' hd
      obtain ⟨ds, a6, a7, a8, a9, a10, a11, rfl⟩ := hp
      show ∃ r ρ', (sSeq _ _) [O ds, C cs, .val (.int more), .val (.int M), C f, O (fal cs), .val (.int (0 + i)), a7, a8, a9, a10, a11, .no, .no, .no] = .ok r ρ' ∧ _
      rw [sSeq_nx (ρ1 := [O ds, C cs, .val (.int more), .val (.int M), C f, O (fal cs), .val (.int (0 + i)), O cs, .val (.int more), a9, a10, a11, .no, .no, .no]) (by simp [sFun, sSeq, sRet, sRetN, sAnd, sOr, sNot, sIf, sIsi, sVar, sLit, sBin, sUn, ap2, ap1, apC, sOfT, tOfS, tCmp', tChn, tAnd', tOr', tNot', sCall, callV, sCallIO, callIO, aCons, aNil, frzs, frz, derefs, deref, sBlt, sDrop, sAsg, sAsgs, unl, unls, rN, rGo, sIfS, sNx, bnd, finE, tyName, isiN, cd_T, cd_F, cd_if, small, rngOk, mulOk, same_refl, dList])]
      have p0 : Put cs more cs more := ⟨Upon.refl cs, hc.hi, hc.nn, m0, by omega⟩
      obtain ⟨ds', o, left, b9, b10, b11, et, p⟩ := turn_ex hc more (.val (.int more)) (.val (.int M)) (C f) (O (fal cs)) (.val (.int (0 + i))) .no .no .no (ds := ds) (a9 := a9) (a10 := a10) (a11 := a11) p0
      rw [sSeq_nx et]
      have co := p.cts hc
      have vho := v_h_of co
      have vgo := v_g_of co
      have vwo := v_w_of co
      have q1 := iM.upon p.up (by have := p.sm; have := p.lf; omega) (hI_is o)
      have q2 := iH.mono (hI_is o) p.up.cnt
      have q3 := iG.mono (gI_is co).1 (by rw [fal_len, fal_len, p.up.len]; exact Nat.le_refl _) fun k _ => p.up.tops k
      have q4 := iW.mono (wI_is o) p.up.cnt
      have r1 : ¬ ((M : Int) < (hI o : Int)) := by omega
      have r2 : ¬ ((hI o : Int) < (hI cs : Int)) := by omega
      have r3 : ¬ ((gI o : Int) < (gI cs : Int)) := by omega
      have r4 : ¬ ((wI o : Int) < (wI cs : Int)) := by omega
      generalize (hI o : Int) = ho at *
      generalize (gI o : Int) = go at *
      generalize (wI o : Int) = wo at *
      generalize (hI cs : Int) = hcs at *
      generalize (gI cs : Int) = gcs at *
      generalize (wI cs : Int) = wcs at *
      exact ⟨.nx, [O ds', C cs, .val (.int more), .val (.int M), C f, O (fal cs), .val (.int (0 + i)), C o, .val (.int left), b9, b10, b11, .no, .no, .no], sIf_nx (by simp [sFun, sSeq, sRet, sRetN, sAnd, sOr, sNot, sIf, sIsi, sVar, sLit, sBin, sUn, ap2, ap1, apC, sOfT, tOfS, tCmp', tChn, tAnd', tOr', tNot', sCall, callV, sCallIO, callIO, aCons, aNil, frzs, frz, derefs, deref, sBlt, sDrop, sAsg, sAsgs, unl, unls, rN, rGo, sIfS, sNx, bnd, finE, tyName, isiN, cd_T, cd_F, cd_if, small, rngOk, mulOk, same_refl, vho, vgo, vwo, vh, vg, vw, dGt, dLt, r1, r2, r3, r4]), .inl rfl, ds', _, _, _, _, _, _, rfl⟩) ⟨d2, _, _, _, _, _, _, rfl⟩
  obtain ⟨ρ4, et, d3, a6, a7, a8, a9, a10, a11, rfl⟩ := turns
  rw [sSeq_nx et]
  rw [sSeq_nx (ρ1 := [O d3, C cs, .val (.int more), .val (.int M), C f, O (fal cs), a6, a7, a8, a9, a10, a11, .val (.int (hI cs)), .no, .no]) (by simp [sFun, sSeq, sRet, sRetN, sAnd, sOr, sNot, sIf, sIsi, sVar, sLit, sBin, sUn, ap2, ap1, apC, sOfT, tOfS, tCmp', tChn, tAnd', tOr', tNot', sCall, callV, sCallIO, callIO, aCons, aNil, frzs, frz, derefs, deref, sBlt, sDrop, sAsg, sAsgs, unl, unls, rN, rGo, sIfS, sNx, bnd, finE, tyName, isiN, cd_T, cd_F, cd_if, small, rngOk, mulOk, same_refl, vh])]
  have hHl := iH.le
  generalize fal cs = fl at *
  generalize hH : hI cs = H at *
  by_cases q : cs.length < H + 1
  · have v1 := vn false
    rw [if_pos ⟨q, rfl⟩] at v1
    have eq : (cs.length : Int) = (H : Int) := by omega
    rw [sSeq_nx (ρ1 := [O d3, C cs, .val (.int more), .val (.int M), C f, O fl, a6, a7, a8, a9, a10, a11, .val (.int H), .val .non, .no]) (by simp [sFun, sSeq, sRet, sRetN, sAnd, sOr, sNot, sIf, sIsi, sVar, sLit, sBin, sUn, ap2, ap1, apC, sOfT, tOfS, tCmp', tChn, tAnd', tOr', tNot', sCall, callV, sCallIO, callIO, aCons, aNil, frzs, frz, derefs, deref, sBlt, sDrop, sAsg, sAsgs, unl, unls, rN, rGo, sIfS, sNx, bnd, finE, tyName, isiN, cd_T, cd_F, cd_if, small, rngOk, mulOk, same_refl, v1])]
    have dq : dEq (.int (cs.length : Int)) (.int (H : Int)) = some true := by rw [dEq_int, eq]; simp
    rw [sSeq_nx (ρ1 := [O d3, C cs, .val (.int more), .val (.int M), C f, O fl, a6, a7, a8, a9, a10, a11, .val (.int H), .val .non, .no]) (sIf_nx (by simp [sFun, sSeq, sRet, sRetN, sAnd, sOr, sNot, sIf, sIsi, sVar, sLit, sBin, sUn, ap2, ap1, apC, sOfT, tOfS, tCmp', tChn, tAnd', tOr', tNot', sCall, callV, sCallIO, callIO, aCons, aNil, frzs, frz, derefs, deref, sBlt, sDrop, sAsg, sAsgs, unl, unls, rN, rGo, sIfS, sNx, bnd, finE, tyName, isiN, cd_T, cd_F, cd_if, small, rngOk, mulOk, same_refl, dIs, dLen, dq, dNe_bl]))]
    exact ⟨d3, [C cs, .val (.int more), .val (.int M), C f, O fl, a6, a7, a8, a9, a10, a11, .val (.int H), .val .non, .no], by simp [sFun, sSeq, sRet, sRetN, sAnd, sOr, sNot, sIf, sIsi, sVar, sLit, sBin, sUn, ap2, ap1, apC, sOfT, tOfS, tCmp', tChn, tAnd', tOr', tNot', sCall, callV, sCallIO, callIO, aCons, aNil, frzs, frz, derefs, deref, sBlt, sDrop, sAsg, sAsgs, unl, unls, rN, rGo, sIfS, sNx, bnd, finE, tyName, isiN, cd_T, cd_F, cd_if, small, rngOk, mulOk, same_refl, dIs]⟩
  · have lz := lz (by omega)
    have v1 := vn false
    rw [if_neg fun z => q z.1, lz] at v1
    have v2 := vn true
    rw [if_neg fun z => q z.1, lz] at v2
    have lk0 : 0 ≤ lack cs (H + 1) := lack_nn
    have k1 : H < mI cs (lack cs (H + 1)) := by
      have m := mW (lack cs (H + 1)) lk0
      apply Nat.lt_of_not_le
      intro z
      have : mI cs (lack cs (H + 1)) = H := Nat.le_antisymm z m.ge
      have t := m.top
      rw [this] at t
      rcases t with t | t <;> omega
    have k2 : 0 ≤ lack cs (H + 1) - 1 → mI cs (lack cs (H + 1) - 1) = H := fun h0 => by
      have m := mW (lack cs (H + 1) - 1) h0
      apply Nat.le_antisymm _ m.ge
      apply Nat.le_of_not_lt
      intro z
      have := m.fit
      have := lack_mono (l := cs) (h := H + 1) (k := mI cs (lack cs (H + 1) - 1)) (by omega)
      omega
    have w1 := vW (lack cs (H + 1)) lk0
    have w2 := vW (lack cs (H + 1) - 1)
    generalize lack cs (H + 1) = lk at *
    have k1' : (H : Int) < (mI cs lk : Int) := by omega
    generalize (mI cs lk : Int) = M1 at *
    rw [sSeq_nx (ρ1 := [O d3, C cs, .val (.int more), .val (.int M), C f, O fl, a6, a7, a8, a9, a10, a11, .val (.int H), .val (.int lk), .no]) (by simp [sFun, sSeq, sRet, sRetN, sAnd, sOr, sNot, sIf, sIsi, sVar, sLit, sBin, sUn, ap2, ap1, apC, sOfT, tOfS, tCmp', tChn, tAnd', tOr', tNot', sCall, callV, sCallIO, callIO, aCons, aNil, frzs, frz, derefs, deref, sBlt, sDrop, sAsg, sAsgs, unl, unls, rN, rGo, sIfS, sNx, bnd, finE, tyName, isiN, cd_T, cd_F, cd_if, small, rngOk, mulOk, same_refl, v1])]
    have dq : dEq (.int (cs.length : Int)) (.int (H : Int)) = some false := by rw [dEq_int]; simp; omega
    rw [sSeq_nx (ρ1 := [O d3, C cs, .val (.int more), .val (.int M), C f, O fl, a6, a7, a8, a9, a10, a11, .val (.int H), .val (.int lk), .no]) (sIf_nx (by simp [sFun, sSeq, sRet, sRetN, sAnd, sOr, sNot, sIf, sIsi, sVar, sLit, sBin, sUn, ap2, ap1, apC, sOfT, tOfS, tCmp', tChn, tAnd', tOr', tNot', sCall, callV, sCallIO, callIO, aCons, aNil, frzs, frz, derefs, deref, sBlt, sDrop, sAsg, sAsgs, unl, unls, rN, rGo, sIfS, sNx, bnd, finE, tyName, isiN, cd_T, cd_F, cd_if, small, rngOk, mulOk, same_refl, dIs, dLen, dq, dNe_bl]))]
    have dl : dEq (.int lk) (.int lk) = some true := by rw [dEq_int]; simp
    refine ⟨d3, [C cs, .val (.int more), .val (.int M), C f, O fl, a6, a7, a8, a9, a10, a11, .val (.int H), .val (.int lk), .no], ?_⟩
    by_cases q0 : lk = 0
    · have d0 : dEq (.int lk) (.int 0) = some true := by rw [dEq_int]; simp [q0]
      simp [sFun, sSeq, sRet, sRetN, sAnd, sOr, sNot, sIf, sIsi, sVar, sLit, sBin, sUn, ap2, ap1, apC, sOfT, tOfS, tCmp', tChn, tAnd', tOr', tNot', sCall, callV, sCallIO, callIO, aCons, aNil, frzs, frz, derefs, deref, sBlt, sDrop, sAsg, sAsgs, unl, unls, rN, rGo, sIfS, sNx, bnd, finE, tyName, isiN, cd_T, cd_F, cd_if, small, rngOk, mulOk, same_refl, dIs, w1, dGt, k1', d0, v2, dl]
    · have d0 : dEq (.int lk) (.int 0) = some false := by rw [dEq_int]; simp [q0]
      have w2 := w2 (by omega)
      rw [k2 (by omega)] at w2
      have d1 : dEq (.int (H : Int)) (.int (H : Int)) = some true := by rw [dEq_int]; simp
      simp [sFun, sSeq, sRet, sRetN, sAnd, sOr, sNot, sIf, sIsi, sVar, sLit, sBin, sUn, ap2, ap1, apC, sOfT, tOfS, tCmp', tChn, tAnd', tOr', tNot', sCall, callV, sCallIO, callIO, aCons, aNil, frzs, frz, derefs, deref, sBlt, sDrop, sAsg, sAsgs, unl, unls, rN, rGo, sIfS, sNx, bnd, finE, tyName, isiN, cd_T, cd_F, cd_if, small, rngOk, mulOk, same_refl, dIs, w1, dGt, k1', d0, v2, dl, w2, dSub, d1]
end L2.DL.W

namespace L2.DL.W
open PySem PySem.Spec PyProof.Rows L2 L2.DL L2.DL.Q
theorem hI_perm {a b : List Int} (p : a.Perm b) : hI a = hI b := by unfold hI; rw [fal_eq p]
theorem gI_perm {a b : List Int} (ha : Cts a) (p : a.Perm b) : gI a = gI b := by
  have h1 := (gI_is ha).1
  have h2 := (gI_is (cts_perm ha p)).1
  rw [← fal_eq p] at h2
  exact Nat.le_antisymm (h1.mono h2 (Nat.le_refl _) fun _ _ => Int.le_refl _) (h2.mono h1 (Nat.le_refl _) fun _ _ => Int.le_refl _)
theorem wt_perm {a b : List Int} (ha : Cts a) (p : a.Perm b) : wt a = wt b := by
  unfold wt wL
  rw [hI_perm p, gI_perm ha p, perm_sum p]
theorem minI_one : ∀ {l : List Int}, (1 : Int) ∈ l → (∀ x ∈ l, 1 ≤ x) → minI l = 1
  | [], h, _ => by simp at h
  | [x], h, _ => by simp at h; subst h; rfl
  | x :: y :: l, h, g => by
    show min x (minI (y :: l)) = 1
    have hx := g x List.mem_cons_self
    have lo : ∀ {l : List Int}, l ≠ [] → (∀ x ∈ l, 1 ≤ x) → 1 ≤ minI l := by
      intro l
      induction l with
      | nil => intro h; exact absurd rfl h
      | cons a l ih =>
        intro _ g
        cases l with
        | nil => exact g a List.mem_cons_self
        | cons b l =>
          have := ih (by simp) fun x hx => g x (List.mem_cons_of_mem _ hx)
          have := g a List.mem_cons_self
          show 1 ≤ min a (minI (b :: l))
          omega
    have h2 := lo (l := y :: l) (by simp) fun z hz => g z (List.mem_cons_of_mem _ hz)
    rcases List.mem_cons.mp h with q | q
    · omega
    · have := minI_one q fun z hz => g z (List.mem_cons_of_mem _ hz)
      omega
theorem dMin_ints {l : List Int} (h : l ≠ []) : dMin [.lst (l.map D.int)] = some (.v (.int (minI l))) := by
  cases l with
  | nil => exact absurd rfl h
  | cons x l =>
    show (match intsOf ((x :: l).map D.int) with | some (n :: ns) => some (Rv.v (.int (minI (n :: ns)))) | _ => none) = _
    rw [intsOf_map]
theorem rk_one {R : List (List Int)} (h : R ≠ []) : minI (R.map (rk R)) = 1 := by
  refine minI_one ?_ fun x hx => ?_
  · obtain ⟨m, h1, h2⟩ := ex_max (R.map wt) (by simpa using h)
    obtain ⟨r, hr, rfl⟩ := List.mem_map.mp h1
    refine List.mem_map.mpr ⟨r, hr, ?_⟩
    unfold rk
    rw [List.filter_eq_nil_iff.mpr fun o ho => by simpa using h2 (wt o) (List.mem_map_of_mem ho)]
    rfl
  · obtain ⟨r, _, rfl⟩ := List.mem_map.mp hx
    unfold rk; omega
theorem cts_two {a b : List Int} (ha : Cts a) (hb : Cts b) (la : a.length ≤ 250) (lb : b.length ≤ 250) : Cts (a ++ b) := ⟨by rw [List.length_append]; omega, fun c hc => (List.mem_append.mp hc).elim (ha.nn c) (hb.nn c), fun c hc => (List.mem_append.mp hc).elim (ha.hi c) (hb.hi c)⟩
theorem cts_rep {h : Int} (h0 : 0 ≤ h) (h1 : h ≤ 200) : Cts (List.replicate h.toNat h) := ⟨by rw [List.length_replicate]; omega, fun c hc => by rw [List.mem_replicate] at hc; omega, fun c hc => by rw [List.mem_replicate] at hc; omega⟩
theorem hI_rep {h : Int} (h0 : 0 ≤ h) : hI (List.replicate h.toNat h) = h.toNat := hI_eq ⟨by
    rw [cnt_all fun x hx => by rw [List.mem_replicate] at hx; omega, List.length_replicate]; exact Nat.le_refl _, by
    rw [cnt_zero fun x hx => by rw [List.mem_replicate] at hx; omega]; exact Nat.zero_le _⟩
theorem sum_rep (n : Nat) (h : Int) : (List.replicate n h).sum = n * h := by
  induction n with
  | zero => simp
  | succ n ih => rw [List.replicate_succ, List.sum_cons, ih]; rw [show ((n + 1 : Nat) : Int) = (n : Int) + 1 by omega, Int.add_mul]; omega
/-- the last look of a turn -/
theorem last_ok (c0 : Cell) {ds : List Int} (a2 a3 a4 a5 a6 a7 a8 a9 a10 a11 a12 a13 a14 a15 a16 : Cell) : ∃ (ds' : List Int) (b13 : Cell), sSeq (sAsg (rN 13) (sCallIO 2 F__law_take (aCons (sVar 1) (aCons (sLit (.int 201)) (aNil))))) (sIfS (tOr' (tCmp' dNe (sCall 1 F_h_of (aCons (sCall 1 F_least_counts (aCons (sVar 13) (aNil))) (aNil))) (sVar 13)) (tOr' (tCmp' dNe (sBlt dSum (aCons (sCall 1 F_least_counts (aCons (sVar 13) (aNil))) (aNil))) (sBin dMul (sVar 13) (sVar 13))) (tCmp' dNe (sCall 1 F_tail_of (aCons (sCall 1 F_least_counts (aCons (sVar 13) (aNil))) (aNil))) (sLit (.int 0))))) (sRet (fxs []) (sLit (.bl false))) (sNx))
    [c0, O ds, a2, a3, a4, a5, a6, a7, a8, a9, a10, a11, a12, a13, a14, a15, a16] = .ok .nx [c0, O ds', a2, a3, a4, a5, a6, a7, a8, a9, a10, a11, a12, b13, a14, a15, a16] := by
  obtain ⟨h, d1, e1, h0, h1⟩ := take_ex ds (b := 201) (by omega)
  have vl := v_least h0 (by omega)
  have cr := cts_rep h0 (by omega)
  have vh := v_h_of cr
  have vt := v_tail_of cr
  have hr := hI_rep h0
  rw [hr] at vh vt
  have sr := sum_rep h.toNat h
  have hh : ((h.toNat : Nat) : Int) = h := Int.toNat_of_nonneg h0
  rw [hh] at sr vh vt
  rw [sr, Int.sub_self] at vt
  have ds2 := dSum_ints (List.replicate h.toNat h)
  rw [sr] at ds2
  have mm := dMul_ok (i := h) (j := h) (by omega) (by omega)
  generalize List.replicate h.toNat h = l at vl vh vt ds2
  generalize h * h = hs at ds2 mm
  refine ⟨d1, .val (.int h), ?_⟩
  rw [sSeq_nx (ρ1 := [c0, O d1, a2, a3, a4, a5, a6, a7, a8, a9, a10, a11, a12, .val (.int h), a14, a15, a16]) (by simp [sFun, sSeq, sRet, sRetN, sAnd, sOr, sNot, sIf, sIsi, sVar, sLit, sBin, sUn, ap2, ap1, apC, sOfT, tOfS, tCmp', tChn, tAnd', tOr', tNot', sCall, callV, sCallIO, callIO, aCons, aNil, frzs, frz, derefs, deref, sBlt, sDrop, sAsg, sAsgs, unl, unls, rN, rGo, sIfS, sNx, bnd, finE, tyName, isiN, cd_T, cd_F, cd_if, small, rngOk, mulOk, same_refl, e1])]
  exact sIf_nx (by simp [sFun, sSeq, sRet, sRetN, sAnd, sOr, sNot, sIf, sIsi, sVar, sLit, sBin, sUn, ap2, ap1, apC, sOfT, tOfS, tCmp', tChn, tAnd', tOr', tNot', sCall, callV, sCallIO, callIO, aCons, aNil, frzs, frz, derefs, deref, sBlt, sDrop, sAsg, sAsgs, unl, unls, rN, rGo, sIfS, sNx, bnd, finE, tyName, isiN, cd_T, cd_F, cd_if, small, rngOk, mulOk, same_refl, vl, vh, vt, ds2, mm, dNe_int])
theorem sum_hi : ∀ {l : List Int}, (∀ c ∈ l, c ≤ 1000000) → l.sum ≤ 1000000 * l.length
  | [], _ => by simp
  | x :: l, h => by
    have a := sum_hi (l := l) fun c h1 => h c (List.mem_cons_of_mem _ h1)
    have b := h x List.mem_cons_self
    rw [List.sum_cons, List.length_cons]; omega
/-- the means of both -/
theorem mean_ok {bs : List Int} (hc : Cts bs) (c0 c1 a2 a3 a4 a5 a7 a8 a9 a10 a11 a12 a13 a14 a15 a16 : Cell) : ∃ (b7 b8 b9 : Cell), sIfS (tCmp' dNe (sVar 6) (sLst (aNil))) (sSeq (sAsg (rT [gN 7, gN 8]) (sCall 1 F_mean_of (aCons (sVar 6) (aNil)))) (sSeq (sAsg (rN 9) (sCall 1 F_middle_of (aCons (sVar 6) (aNil)))) (sIfS (tOr' (tCmp' dNe (sBin dMul (sVar 7) (sBlt dLen (aCons (sVar 6) (aNil)))) (sBin dMul (sVar 8) (sBlt dSum (aCons (sVar 6) (aNil))))) (tOr' (tCmp' dLt (sBin dMul (sLit (.int 2)) (sCall 2 F_at_least (aCons (sVar 6) (aCons (sVar 9) (aNil))))) (sBlt dLen (aCons (sVar 6) (aNil)))) (tCmp' dGt (sBin dMul (sLit (.int 2)) (sCall 2 F_at_least (aCons (sVar 6) (aCons (sBin dAdd (sVar 9) (sLit (.int 1))) (aNil))))) (sBlt dLen (aCons (sVar 6) (aNil)))))) (sRet (fxs []) (sLit (.bl false))) (sNx)))) (sNx)
    [c0, c1, a2, a3, a4, a5, C bs, a7, a8, a9, a10, a11, a12, a13, a14, a15, a16] = .ok .nx [c0, c1, a2, a3, a4, a5, C bs, b7, b8, b9, a10, a11, a12, a13, a14, a15, a16] := by
  have h1 := hc.len
  have dn := dNe_emp bs
  by_cases hb : bs = []
  · rw [decide_eq_true hb] at dn
    exact ⟨a7, a8, a9, sIf_nx (by simp [sFun, sSeq, sRet, sRetN, sAnd, sOr, sNot, sIf, sIsi, sVar, sLit, sBin, sUn, ap2, ap1, apC, sOfT, tOfS, tCmp', tChn, tAnd', tOr', tNot', sCall, callV, sCallIO, callIO, aCons, aNil, frzs, frz, derefs, deref, sBlt, sDrop, sAsg, sAsgs, unl, unls, rN, rGo, sIfS, sNx, bnd, finE, tyName, isiN, cd_T, cd_F, cd_if, small, rngOk, mulOk, same_refl, sLst, dn])⟩
  · rw [decide_eq_false hb] at dn
    obtain ⟨n, d, en, em⟩ := mean_ex hc hb
    obtain ⟨x, ex, x0, x1, x2⟩ := middle_ex hc hb
    have v1 := v_at_least hc x0
    have v2 := v_at_least (n := x + 1) hc (by omega)
    have dl : dLen [.lst (bs.map D.int)] = some (.v (.int bs.length)) := by simp [dLen]
    have dsm := dSum_ints bs
    have hs0 : 0 ≤ bs.sum := sum_nn hc.nn
    have hs1 := sum_hi hc.hi
    have m1 := dMul_okr (i := n) (j := bs.length) (by omega) (by omega)
    have m2 := dMul_okr (i := d) (j := bs.sum) (by omega) (by omega)
    have q1 : ¬ (2 * (Q.cnt x bs : Int) < (bs.length : Int)) := by omega
    have q2 : ¬ ((bs.length : Int) < 2 * (Q.cnt (x + 1) bs : Int)) := by omega
    have m3 := dMul_ok (i := 2) (j := (Q.cnt x bs : Int)) (by omega) (by omega)
    have m4 := dMul_ok (i := 2) (j := (Q.cnt (x + 1) bs : Int)) (by omega) (by omega)
    generalize (2 * (Q.cnt x bs : Int)) = k1 at *
    generalize (2 * (Q.cnt (x + 1) bs : Int)) = k2 at *
    generalize (Q.cnt x bs : Int) = k3 at *
    generalize (Q.cnt (x + 1) bs : Int) = k4 at *
    rw [em] at m1
    generalize d * bs.sum = k5 at *
    generalize bs.sum = k6 at *
    generalize (bs.length : Int) = k7 at *
    refine ⟨.val (.int n), .val (.int d), .val (.int x), ?_⟩
    rw [sIf_yes (ρ1 := [c0, c1, a2, a3, a4, a5, C bs, a7, a8, a9, a10, a11, a12, a13, a14, a15, a16]) (by simp [sFun, sSeq, sRet, sRetN, sAnd, sOr, sNot, sIf, sIsi, sVar, sLit, sBin, sUn, ap2, ap1, apC, sOfT, tOfS, tCmp', tChn, tAnd', tOr', tNot', sCall, callV, sCallIO, callIO, aCons, aNil, frzs, frz, derefs, deref, sBlt, sDrop, sAsg, sAsgs, unl, unls, rN, rGo, sIfS, sNx, bnd, finE, tyName, isiN, cd_T, cd_F, cd_if, small, rngOk, mulOk, same_refl, sLst, dn])]
    rw [sSeq_nx (ρ1 := [c0, c1, a2, a3, a4, a5, C bs, .val (.int n), .val (.int d), a9, a10, a11, a12, a13, a14, a15, a16]) (by simp [sFun, sSeq, sRet, sRetN, sAnd, sOr, sNot, sIf, sIsi, sVar, sLit, sBin, sUn, ap2, ap1, apC, sOfT, tOfS, tCmp', tChn, tAnd', tOr', tNot', sCall, callV, sCallIO, callIO, aCons, aNil, frzs, frz, derefs, deref, sBlt, sDrop, sAsg, sAsgs, unl, unls, rN, rGo, sIfS, sNx, bnd, finE, tyName, isiN, cd_T, cd_F, cd_if, small, rngOk, mulOk, same_refl, en, rT, gT, gGo, gN])]
    rw [sSeq_nx (ρ1 := [c0, c1, a2, a3, a4, a5, C bs, .val (.int n), .val (.int d), .val (.int x), a10, a11, a12, a13, a14, a15, a16]) (by simp [sFun, sSeq, sRet, sRetN, sAnd, sOr, sNot, sIf, sIsi, sVar, sLit, sBin, sUn, ap2, ap1, apC, sOfT, tOfS, tCmp', tChn, tAnd', tOr', tNot', sCall, callV, sCallIO, callIO, aCons, aNil, frzs, frz, derefs, deref, sBlt, sDrop, sAsg, sAsgs, unl, unls, rN, rGo, sIfS, sNx, bnd, finE, tyName, isiN, cd_T, cd_F, cd_if, small, rngOk, mulOk, same_refl, ex])]
    exact sIf_nx (by simp [sFun, sSeq, sRet, sRetN, sAnd, sOr, sNot, sIf, sIsi, sVar, sLit, sBin, sUn, ap2, ap1, apC, sOfT, tOfS, tCmp', tChn, tAnd', tOr', tNot', sCall, callV, sCallIO, callIO, aCons, aNil, frzs, frz, derefs, deref, sBlt, sDrop, sAsg, sAsgs, unl, unls, rN, rGo, sIfS, sNx, bnd, finE, tyName, isiN, cd_T, cd_F, cd_if, small, rngOk, mulOk, same_refl, dl, dsm, m1, m2, v1, v2, dAdd, m3, m4, dNe_int, dLt, dGt, q1, q2])
end L2.DL.W

namespace L2.DL.W
open PySem PySem.Spec PyProof.Rows L2 L2.DL L2.DL.Q
theorem dIx_of {α : Type} {F : α → D} {l : List α} {i : Nat} {x : α} (h : l[i]? = some x) : dIx (.lst (l.map F)) (.int (i : Int)) = some (.v (F x)) := by
  show (atI _ _).map Rv.v = _
  rw [atI_nat (v := F x) (by rw [List.getElem?_map, h]; rfl)]; rfl
theorem dAdd_lst {a b : List D} (h : a.length + b.length ≤ 16777216) : dAdd (.lst a) (.lst b) = some (.f (.lst (a ++ b))) := by
  have q : small (a.length + b.length) = true := cd_true h
  unfold dAdd
  simp only [q, if_true]
theorem rows_ok {cs os bs : List Int} (c0 : Cell) (hc : Cts cs) (ho : Cts os) (hb : Cts bs) {ds : List Int} (a2 a5 a7 a8 a9 a10 a11 a12 a13 a14 a15 a16 : Cell) : ∃ (ds' : List Int) (b10 b11 b12 b13 : Cell), (sSeq (sAsg (rN 10) (sBin dAdd (sLst (aCons (sVar 3) (aCons (sVar 4) (aCons (sVar 6) (aCons (sRev (sVar 3)) (aNil)))))) (sLc (iRange1 (sCallIO 2 F__law_take (aCons (sVar 1) (aCons (sLit (.int 20)) (aNil))))) (gN 15) (tYesD) (sCallIO 2 F__law_counts (aCons (sVar 1) (aCons (sLit (.int 20)) (aNil)))) [15]))) (sSeq (sAsg (rN 11) (sCall 1 F_ranks (aCons (sVar 10) (aNil)))) (sSeq (sAsg (rN 12) (sLc (iAny (sVar 10)) (gN 14) (tYesD) (sTup (aCons (sCall 1 F_h_of (aCons (sVar 14) (aNil))) (aCons (sCall 1 F_g_of (aCons (sVar 14) (aNil))) (aCons (sBlt dSum (aCons (sVar 14) (aNil))) (aNil))))) [14])) (sSeq (sIfS (tOr' (tCmp' dNe (sBin dIx (sVar 11) (sLit (.int 0))) (sBin dIx (sVar 11) (sLit (.int 3)))) (tCmp' dNe (sBlt dMin (aCons (sVar 11) (aNil))) (sLit (.int 1)))) (sRet (fxs []) (sLit (.bl false))) (sNx)) (sSeq (sIfS (tCmp' dNe (sLc (iRange1 (sBlt dLen (aCons (sVar 10) (aNil)))) (gN 15) (tCmp' dNe (sBin dIx (sVar 11) (sVar 15)) (sBin dAdd (sLit (.int 1)) (sBlt dLen (aCons (sLc (iAny (sVar 12)) (gN 16) (tCmp' dGt (sVar 16) (sBin dIx (sVar 12) (sVar 15))) (sVar 16) [16]) (aNil))))) (sVar 15) [15]) (sLst (aNil))) (sRet (fxs []) (sLit (.bl false))) (sNx)) (sSeq (sAsg (rN 13) (sCallIO 2 F__law_take (aCons (sVar 1) (aCons (sLit (.int 201)) (aNil))))) (sIfS (tOr' (tCmp' dNe (sCall 1 F_h_of (aCons (sCall 1 F_least_counts (aCons (sVar 13) (aNil))) (aNil))) (sVar 13)) (tOr' (tCmp' dNe (sBlt dSum (aCons (sCall 1 F_least_counts (aCons (sVar 13) (aNil))) (aNil))) (sBin dMul (sVar 13) (sVar 13))) (tCmp' dNe (sCall 1 F_tail_of (aCons (sCall 1 F_least_counts (aCons (sVar 13) (aNil))) (aNil))) (sLit (.int 0))))) (sRet (fxs []) (sLit (.bl false))) (sNx))))))))
    [c0, O ds, a2, C cs, C os, a5, C bs, a7, a8, a9, a10, a11, a12, a13, .no, .no, .no] = .ok .nx [c0, O ds', a2, C cs, C os, a5, C bs, a7, a8, a9, b10, b11, b12, b13, .no, .no, .no] := by
  -- the rows
  obtain ⟨n, d1, e1, n0, n1⟩ := take_ex ds (b := 20) (by omega)
  obtain ⟨acc, ρx, e2, ⟨X, d2, rfl, rfl, pX⟩, lX⟩ := sLc_inv (it := iRange1 (sCallIO 2 F__law_take (aCons (sVar 1) (aCons (sLit (.int 20)) (aNil))))) (src := none) (tg := gN 15) (tt := tYesD) (te := sCallIO 2 F__law_counts (aCons (sVar 1) (aCons (sLit (.int 20)) (aNil)))) (vs := [15])
    (ρ := [c0, O ds, a2, C cs, C os, a5, C bs, a7, a8, a9, a10, a11, a12, a13, .no, .no, .no]) (ρ1 := [c0, O d1, a2, C cs, C os, a5, C bs, a7, a8, a9, a10, a11, a12, a13, .no, .no, .no]) (l := upFrom 0 n.toNat)
    (fun acc ρ => ∃ (X : List (List Int)) (ds : List Int), acc = X.map L ∧ ρ = [c0, O ds, a2, C cs, C os, a5, C bs, a7, a8, a9, a10, a11, a12, a13, .no, .no, .no] ∧ ∀ r ∈ X, Cts r)
    (iR1_ok (r := .v (.int n)) (by simp [sFun, sSeq, sRet, sRetN, sAnd, sOr, sNot, sIf, sIsi, sVar, sLit, sBin, sUn, ap2, ap1, apC, sOfT, tOfS, tCmp', tChn, tAnd', tOr', tNot', sCall, callV, sCallIO, callIO, aCons, aNil, frzs, frz, derefs, deref, sBlt, sDrop, sAsg, sAsgs, unl, unls, rN, rGo, sIfS, sNx, bnd, finE, tyName, isiN, cd_T, cd_F, cd_if, small, rngOk, mulOk, same_refl, e1]) rfl n0 (by omega)) (fun _ _ _ => rfl) (fun d hd acc ρ ⟨X, ds, x1, x2, x3⟩ => by
      subst x1; subst x2
      obtain ⟨c, d3, e3, _, hcc⟩ := counts_ex ds (most := 20) (by omega) (by omega)
      refine ⟨some (L c), [c0, O d3, a2, C cs, C os, a5, C bs, a7, a8, a9, a10, a11, a12, a13, .no, .no, .no], by simp [cstep, gN, nox, tYesD, wipeE, sFun, sSeq, sRet, sRetN, sAnd, sOr, sNot, sIf, sIsi, sVar, sLit, sBin, sUn, ap2, ap1, apC, sOfT, tOfS, tCmp', tChn, tAnd', tOr', tNot', sCall, callV, sCallIO, callIO, aCons, aNil, frzs, frz, derefs, deref, sBlt, sDrop, sAsg, sAsgs, unl, unls, rN, rGo, sIfS, sNx, bnd, finE, tyName, isiN, cd_T, cd_F, cd_if, small, rngOk, mulOk, same_refl, e3], X ++ [c], d3, by simp, rfl, fun r hr => ?_⟩
      rcases List.mem_append.mp hr with q | q
      · exact x3 r q
      · rw [List.mem_singleton] at q; subst q; exact hcc) ⟨[], d1, rfl, by simp [wipeE], fun r hr => by simp at hr⟩ (by rw [upFrom_len]; omega)
  rw [List.length_map, upFrom_len] at lX
  simp [backE] at e2
  obtain ⟨R, hR⟩ : ∃ R : List (List Int), R = [cs, os, bs, cs.reverse] ++ X := ⟨_, rfl⟩
  have pR : ∀ r ∈ R, Cts r := by
    intro r hr
    rw [hR] at hr
    rcases List.mem_append.mp hr with q | q
    · simp at q
      rcases q with q | q | q | q
      · subst q; exact hc
      · subst q; exact ho
      · subst q; exact hb
      · subst q; exact cts_perm hc (List.reverse_perm cs).symm
    · exact pX r q
  have lR : 4 ≤ R.length ∧ R.length ≤ 50 := by rw [hR, List.length_append]; simp; omega
  have g0 : R[0]? = some cs := by rw [hR]; rfl
  have g3 : R[3]? = some cs.reverse := by rw [hR]; rfl
  have er : dAdd (.lst [L cs, L os, L bs, .lst (cs.map D.int).reverse]) (.lst (X.map L)) = some (.f (.lst (R.map L))) := by
    rw [dAdd_lst (by simp; omega), hR, List.map_append]
    simp
  have rv : sRev (sVar 3) [c0, O ds, a2, C cs, C os, a5, C bs, a7, a8, a9, a10, a11, a12, a13, .no, .no, .no] = .ok (.f (.lst (cs.map D.int).reverse)) [c0, O ds, a2, C cs, C os, a5, C bs, a7, a8, a9, a10, a11, a12, a13, .no, .no, .no] := by simp [sRev, sFun, sSeq, sRet, sRetN, sAnd, sOr, sNot, sIf, sIsi, sVar, sLit, sBin, sUn, ap2, ap1, apC, sOfT, tOfS, tCmp', tChn, tAnd', tOr', tNot', sCall, callV, sCallIO, callIO, aCons, aNil, frzs, frz, derefs, deref, sBlt, sDrop, sAsg, sAsgs, unl, unls, rN, rGo, sIfS, sNx, bnd, finE, tyName, isiN, cd_T, cd_F, cd_if, small, rngOk, mulOk, same_refl]
  generalize X.map L = XL at e2 er
  generalize (cs.map D.int).reverse = rvd at er rv
  rw [sSeq_nx (ρ1 := [c0, O d2, a2, C cs, C os, a5, C bs, a7, a8, a9, .own (.lst (R.map L)), a11, a12, a13, .no, .no, .no]) (by simp [sFun, sSeq, sRet, sRetN, sAnd, sOr, sNot, sIf, sIsi, sVar, sLit, sBin, sUn, ap2, ap1, apC, sOfT, tOfS, tCmp', tChn, tAnd', tOr', tNot', sCall, callV, sCallIO, callIO, aCons, aNil, frzs, frz, derefs, deref, sBlt, sDrop, sAsg, sAsgs, unl, unls, rN, rGo, sIfS, sNx, bnd, finE, tyName, isiN, cd_T, cd_F, cd_if, small, rngOk, mulOk, same_refl, sLst, rv, e2, er])]
  have vr := v_ranks pR (by omega) lR.2
  obtain ⟨T, hT⟩ : ∃ T, (R.map (rk R)).map D.int = T := ⟨_, rfl⟩
  rw [hT] at vr
  rw [sSeq_nx (ρ1 := [c0, O d2, a2, C cs, C os, a5, C bs, a7, a8, a9, .val (.lst (R.map L)), .own (.lst T), a12, a13, .no, .no, .no]) (by simp [sFun, sSeq, sRet, sRetN, sAnd, sOr, sNot, sIf, sIsi, sVar, sLit, sBin, sUn, ap2, ap1, apC, sOfT, tOfS, tCmp', tChn, tAnd', tOr', tNot', sCall, callV, sCallIO, callIO, aCons, aNil, frzs, frz, derefs, deref, sBlt, sDrop, sAsg, sAsgs, unl, unls, rN, rGo, sIfS, sNx, bnd, finE, tyName, isiN, cd_T, cd_F, cd_if, small, rngOk, mulOk, same_refl, vr])]
  -- the worths
  have lw := sLc_of (it := iAny (sVar 10)) (src := none) (ρ := [c0, O d2, a2, C cs, C os, a5, C bs, a7, a8, a9, .val (.lst (R.map L)), .own (.lst T), a12, a13, .no, .no, .no]) (ρ1 := [c0, O d2, a2, C cs, C os, a5, C bs, a7, a8, a9, .val (.lst (R.map L)), .own (.lst T), a12, a13, .no, .no, .no]) (l := R) (tg := gN 14) (tt := tYesD)
    (te := sTup (aCons (sCall 1 F_h_of (aCons (sVar 14) (aNil))) (aCons (sCall 1 F_g_of (aCons (sVar 14) (aNil))) (aCons (sBlt dSum (aCons (sVar 14) (aNil))) (aNil))))) (vs := [14])
    L (fun _ => true) wD (by simp [iAny, sFun, sSeq, sRet, sRetN, sAnd, sOr, sNot, sIf, sIsi, sVar, sLit, sBin, sUn, ap2, ap1, apC, sOfT, tOfS, tCmp', tChn, tAnd', tOr', tNot', sCall, callV, sCallIO, callIO, aCons, aNil, frzs, frz, derefs, deref, sBlt, sDrop, sAsg, sAsgs, unl, unls, rN, rGo, sIfS, sNx, bnd, finE, tyName, isiN, cd_T, cd_F, cd_if, small, rngOk, mulOk, same_refl, walk, walkL]) rfl
    (fun r hr => by simp [cstep, gN, nox, tYesD, wipeE, sFun, sSeq, sRet, sRetN, sAnd, sOr, sNot, sIf, sIsi, sVar, sLit, sBin, sUn, ap2, ap1, apC, sOfT, tOfS, tCmp', tChn, tAnd', tOr', tNot', sCall, callV, sCallIO, callIO, aCons, aNil, frzs, frz, derefs, deref, sBlt, sDrop, sAsg, sAsgs, unl, unls, rN, rGo, sIfS, sNx, bnd, finE, tyName, isiN, cd_T, cd_F, cd_if, small, rngOk, mulOk, same_refl, v_h_of (pR r hr), v_g_of (pR r hr), dSum_ints, sTup, wD, wt, wL]) (by omega)
  rw [List.filter_eq_self.mpr fun _ _ => rfl] at lw
  rw [sSeq_nx (ρ1 := [c0, O d2, a2, C cs, C os, a5, C bs, a7, a8, a9, .val (.lst (R.map L)), .own (.lst T), .own (.lst (R.map wD)), a13, .no, .no, .no]) (by
    generalize R.map wD = T at lw ⊢
    simp only [sAsg, lw, bnd, unl, rN]
    rfl)]
  -- told
  have t0 := dIx_of (F := D.int) (l := R.map (rk R)) (i := 0) (x := rk R cs) (by rw [List.getElem?_map, g0]; rfl)
  have t3 := dIx_of (F := D.int) (l := R.map (rk R)) (i := 3) (x := rk R cs.reverse) (by rw [List.getElem?_map, g3]; rfl)
  have e03 : rk R cs = rk R cs.reverse := by unfold rk; rw [wt_perm hc (List.reverse_perm cs).symm]
  have tm := dMin_ints (l := R.map (rk R)) (by intro z; have := congrArg List.length z; simp at this; rw [this] at lR; simp at lR)
  rw [rk_one (by intro z; rw [z] at lR; simp at lR)] at tm
  rw [← e03] at t3
  rw [show ((0 : Nat) : Int) = 0 from rfl] at t0
  rw [show ((3 : Nat) : Int) = 3 from rfl] at t3
  have tk : ∀ (i : Nat) (r : List Int), R[i]? = some r → dIx (.lst ((R.map (rk R)).map D.int)) (.int (i : Int)) = some (.v (.int (rk R r))) := fun i r h => dIx_of (F := D.int) (by rw [List.getElem?_map, h]; rfl)
  rw [hT] at t0 t3 tm
  simp only [hT] at tk
  rw [sSeq_nx (ρ1 := [c0, O d2, a2, C cs, C os, a5, C bs, a7, a8, a9, .val (.lst (R.map L)), .own (.lst T), .own (.lst (R.map wD)), a13, .no, .no, .no]) (sIf_nx (by simp [sFun, sSeq, sRet, sRetN, sAnd, sOr, sNot, sIf, sIsi, sVar, sLit, sBin, sUn, ap2, ap1, apC, sOfT, tOfS, tCmp', tChn, tAnd', tOr', tNot', sCall, callV, sCallIO, callIO, aCons, aNil, frzs, frz, derefs, deref, sBlt, sDrop, sAsg, sAsgs, unl, unls, rN, rGo, sIfS, sNx, bnd, finE, tyName, isiN, cd_T, cd_F, cd_if, small, rngOk, mulOk, same_refl, t0, t3, tm, dNe_int]))]
  -- each of told
  have lin : ∀ (i : Nat) (r : List Int), R[i]? = some r → sLc (iAny (sVar 12)) (gN 16) (tCmp' dGt (sVar 16) (sBin dIx (sVar 12) (sVar 15))) (sVar 16) [16] [c0, O d2, a2, C cs, C os, a5, C bs, a7, a8, a9, .val (.lst (R.map L)), .own (.lst T), .own (.lst (R.map wD)), a13, .no, .val (.int (0 + i)), .no]
      = .ok (.f (.lst ((R.filter fun o => decide (wt r < wt o)).map wD))) [c0, O d2, a2, C cs, C os, a5, C bs, a7, a8, a9, .val (.lst (R.map L)), .own (.lst T), .own (.lst (R.map wD)), a13, .no, .val (.int (0 + i)), .no] := fun i r hr => by
    have ix := dIx_of (F := wD) hr
    rw [show (0 : Int) + (i : Int) = i by omega]
    exact sLc_of (src := some (12, .lst (R.map wD))) wD (fun o => decide (wt r < wt o)) wD (by simp [iAny, sFun, sSeq, sRet, sRetN, sAnd, sOr, sNot, sIf, sIsi, sVar, sLit, sBin, sUn, ap2, ap1, apC, sOfT, tOfS, tCmp', tChn, tAnd', tOr', tNot', sCall, callV, sCallIO, callIO, aCons, aNil, frzs, frz, derefs, deref, sBlt, sDrop, sAsg, sAsgs, unl, unls, rN, rGo, sIfS, sNx, bnd, finE, tyName, isiN, cd_T, cd_F, cd_if, small, rngOk, mulOk, same_refl, walk, walkL]) (by simp [srcChk, wipeE, same_refl])
      (fun o hoo => by
        generalize R.map wD = RW at ix ⊢
        by_cases q : wt r < wt o <;> simp [cstep, gN, nox, wipeE, sFun, sSeq, sRet, sRetN, sAnd, sOr, sNot, sIf, sIsi, sVar, sLit, sBin, sUn, ap2, ap1, apC, sOfT, tOfS, tCmp', tChn, tAnd', tOr', tNot', sCall, callV, sCallIO, callIO, aCons, aNil, frzs, frz, derefs, deref, sBlt, sDrop, sAsg, sAsgs, unl, unls, rN, rGo, sIfS, sNx, bnd, finE, tyName, isiN, cd_T, cd_F, cd_if, small, rngOk, mulOk, same_refl, ix, dGt_w, q]) (by omega)
  obtain ⟨acc, ρy, ey, ⟨rfl, rfl⟩, _⟩ := sLc_inv (it := iRange1 (sBlt dLen (aCons (sVar 10) (aNil)))) (src := none) (tg := gN 15) (tt := tCmp' dNe (sBin dIx (sVar 11) (sVar 15)) (sBin dAdd (sLit (.int 1)) (sBlt dLen (aCons (sLc (iAny (sVar 12)) (gN 16) (tCmp' dGt (sVar 16) (sBin dIx (sVar 12) (sVar 15))) (sVar 16) [16]) (aNil))))) (te := sVar 15) (vs := [15])
    (ρ := [c0, O d2, a2, C cs, C os, a5, C bs, a7, a8, a9, .val (.lst (R.map L)), .own (.lst T), .own (.lst (R.map wD)), a13, .no, .no, .no]) (ρ1 := [c0, O d2, a2, C cs, C os, a5, C bs, a7, a8, a9, .val (.lst (R.map L)), .own (.lst T), .own (.lst (R.map wD)), a13, .no, .no, .no]) (l := upFrom 0 R.length)
    (fun acc ρ => acc = [] ∧ ρ = [c0, O d2, a2, C cs, C os, a5, C bs, a7, a8, a9, .val (.lst (R.map L)), .own (.lst T), .own (.lst (R.map wD)), a13, .no, .no, .no])
    (by
      have := iR1_ok (f := sBlt dLen (aCons (sVar 10) (aNil))) (r := .v (.int R.length)) (ρ := [c0, O d2, a2, C cs, C os, a5, C bs, a7, a8, a9, .val (.lst (R.map L)), .own (.lst T), .own (.lst (R.map wD)), a13, .no, .no, .no]) (ρ1 := [c0, O d2, a2, C cs, C os, a5, C bs, a7, a8, a9, .val (.lst (R.map L)), .own (.lst T), .own (.lst (R.map wD)), a13, .no, .no, .no]) (n := R.length) (by simp [sFun, sSeq, sRet, sRetN, sAnd, sOr, sNot, sIf, sIsi, sVar, sLit, sBin, sUn, ap2, ap1, apC, sOfT, tOfS, tCmp', tChn, tAnd', tOr', tNot', sCall, callV, sCallIO, callIO, aCons, aNil, frzs, frz, derefs, deref, sBlt, sDrop, sAsg, sAsgs, unl, unls, rN, rGo, sIfS, sNx, bnd, finE, tyName, isiN, cd_T, cd_F, cd_if, small, rngOk, mulOk, same_refl, dLen]) rfl (by omega) (by omega)
      rwa [Int.toNat_natCast] at this)
    (fun _ _ _ => rfl) (fun d hd acc ρ ⟨x1, x2⟩ => by
      subst x1; subst x2
      obtain ⟨i, hi⟩ := List.getElem?_of_mem hd
      obtain ⟨i1, rfl⟩ := upFrom_get' hi
      have hr := List.getElem?_eq_getElem (l := R) (i := i) i1
      generalize R[i] = r at hr
      have l2 := lin i r hr
      have t2 := tk i r hr
      have rke : rk R r = 1 + ((R.filter fun o => decide (wt r < wt o)).length : Int) := rfl
      have dl : dLen [.lst ((R.filter fun o => decide (wt r < wt o)).map wD)] = some (.v (.int (R.filter fun o => decide (wt r < wt o)).length)) := by
        show some (Rv.v (.int (((R.filter fun o => decide (wt r < wt o)).map wD).length : Nat))) = _
        rw [List.length_map]
      generalize ((R.filter fun o => decide (wt r < wt o)).length : Int) = len at rke dl
      generalize (R.filter fun o => decide (wt r < wt o)).map wD = F at l2 dl
      rw [rke] at t2
      rw [show (0 : Int) + (i : Int) = i by omega] at l2 ⊢
      generalize R.map wD = RW at l2 ⊢
      generalize R.map L = RL at l2 ⊢
      refine ⟨none, _, ?_, rfl, rfl⟩
      simp [cstep, gN, nox, wipeE, sFun, sSeq, sRet, sRetN, sAnd, sOr, sNot, sIf, sIsi, sVar, sLit, sBin, sUn, ap2, ap1, apC, sOfT, tOfS, tCmp', tChn, tAnd', tOr', tNot', sCall, callV, sCallIO, callIO, aCons, aNil, frzs, frz, derefs, deref, sBlt, sDrop, sAsg, sAsgs, unl, unls, rN, rGo, sIfS, sNx, bnd, finE, tyName, isiN, cd_T, cd_F, cd_if, small, rngOk, mulOk, same_refl, l2, t2, dl, dAdd, dNe_int]) ⟨rfl, by simp [wipeE]⟩ (by rw [upFrom_len]; omega)
  simp [backE] at ey
  rw [sSeq_nx (ρ1 := [c0, O d2, a2, C cs, C os, a5, C bs, a7, a8, a9, .val (.lst (R.map L)), .own (.lst T), .own (.lst (R.map wD)), a13, .no, .no, .no]) (sIf_nx (by
    generalize R.map wD = RW at ey ⊢
    generalize R.map L = RL at ey ⊢
    simp [tCmp', bnd, ey, sLst, aNil, frzs, small, cd_T, apC, deref, dNe_nil]))]
  obtain ⟨d4, b13, e4⟩ := last_ok c0 (ds := d2) a2 (C cs) (C os) a5 (C bs) a7 a8 a9 (.val (.lst (R.map L))) (.own (.lst T)) (.own (.lst (R.map wD))) a13 .no .no .no
  exact ⟨d4, _, _, _, b13, e4⟩
end L2.DL.W

namespace L2.DL.W
open PySem PySem.Spec PyProof.Rows L2 L2.DL L2.DL.Q
theorem seq_ex {f g : Sm Fl} {ρ0 : DEnv} {r : Fl} {P : DEnv → Prop} (h : ∃ ρ', f ρ0 = .ok .nx ρ' ∧ P ρ') (k : ∀ ρ', P ρ' → ∃ ρ, g ρ' = .ok r ρ) : ∃ ρ, sSeq f g ρ0 = .ok r ρ := by
  obtain ⟨ρ', e, p⟩ := h
  rw [sSeq_nx e]
  exact k ρ' p
theorem law_true (ns : List Int) (hn : ns.length ≤ 63) : ∃ ρ, F_law [.val (.scr ns)] = .ok (.v (.bl true)) ρ := by
  obtain ⟨d0, ed⟩ := draws_ex ns hn
  suffices h : ∃ ρ, g_law [.val (.scr ns), .no, .no, .no, .no, .no, .no, .no, .no, .no, .no, .no, .no, .no, .no, .no, .no] = .ok (.ret (.v (.bl true))) ρ by
    obtain ⟨ρ, e⟩ := h
    exact ⟨_, sFun_ret e fun i z => by cases z⟩
  unfold g_law
  rw [sSeq_nx (ρ1 := [.val (.scr ns), O d0, .no, .no, .no, .no, .no, .no, .no, .no, .no, .no, .no, .no, .no, .no, .no]) (by simp [sFun, sSeq, sRet, sRetN, sAnd, sOr, sNot, sIf, sIsi, sVar, sLit, sBin, sUn, ap2, ap1, apC, sOfT, tOfS, tCmp', tChn, tAnd', tOr', tNot', sCall, callV, sCallIO, callIO, aCons, aNil, frzs, frz, derefs, deref, sBlt, sDrop, sAsg, sAsgs, unl, unls, rN, rGo, sIfS, sNx, bnd, finE, tyName, isiN, cd_T, cd_F, cd_if, small, rngOk, mulOk, same_refl, ed])]
  let P : DEnv → Prop := fun ρ => ∃ (ds : List Int) (a2 a3 a4 a5 a6 a7 a8 a9 a10 a11 a12 a13 : Cell), ρ = [.val (.scr ns), O ds, a2, a3, a4, a5, a6, a7, a8, a9, a10, a11, a12, a13, .no, .no, .no]
  refine seq_ex (P := P) (sFor_inv (fun _ => P) (l := upFrom 0 3) (ρ1 := [.val (.scr ns), O d0, .no, .no, .no, .no, .no, .no, .no, .no, .no, .no, .no, .no, .no, .no, .no]) (iR1_ok (n := 3) (r := .v (.int 3)) rfl rfl (by omega) (by omega)) (fun i d ρ hd hp => ?_) ⟨d0, _, _, _, _, _, _, _, _, _, _, _, _, rfl⟩) fun ρ' (_ : P ρ') => ⟨ρ', rfl⟩
  obtain ⟨hi, rfl⟩ := upFrom_get' hd
  obtain ⟨ds, a2, a3, a4, a5, a6, a7, a8, a9, a10, a11, a12, a13, rfl⟩ := hp
  show ∃ r ρ', (sSeq _ _) [.val (.scr ns), O ds, .val (.int (0 + i)), a3, a4, a5, a6, a7, a8, a9, a10, a11, a12, a13, .no, .no, .no] = .ok r ρ' ∧ _
  generalize Cell.val (.int (0 + (i : Int))) = ci
  -- counts and other
  obtain ⟨x, d1, e1, hx⟩ := pick_ex ds [10, 250] (by simp)
  have hx0 : 0 ≤ x ∧ x ≤ 250 := by simp at hx; omega
  obtain ⟨cs, d2, e2, lc, hc⟩ := counts_ex d1 hx0.1 hx0.2
  obtain ⟨os, d3, e3, lo, ho⟩ := counts_ex d2 (most := 250) (by omega) (by omega)
  simp only [List.map_cons, List.map_nil] at e1
  rw [sSeq_nx (ρ1 := [.val (.scr ns), O d3, ci, O cs, O os, a5, a6, a7, a8, a9, a10, a11, a12, a13, .no, .no, .no]) (by simp [sFun, sSeq, sRet, sRetN, sAnd, sOr, sNot, sIf, sIsi, sVar, sLit, sBin, sUn, ap2, ap1, apC, sOfT, tOfS, tCmp', tChn, tAnd', tOr', tNot', sCall, callV, sCallIO, callIO, aCons, aNil, frzs, frz, derefs, deref, sBlt, sDrop, sAsg, sAsgs, unl, unls, rN, rGo, sIfS, sNx, bnd, finE, tyName, isiN, cd_T, cd_F, cd_if, small, rngOk, mulOk, same_refl, sLst, e1, e2, e3, cd_T])]
  rw [sSeq_nx (ρ1 := [.val (.scr ns), O d3, ci, O cs, O os, O cs, a6, a7, a8, a9, a10, a11, a12, a13, .no, .no, .no]) (by simp [sFun, sSeq, sRet, sRetN, sAnd, sOr, sNot, sIf, sIsi, sVar, sLit, sBin, sUn, ap2, ap1, apC, sOfT, tOfS, tCmp', tChn, tAnd', tOr', tNot', sCall, callV, sCallIO, callIO, aCons, aNil, frzs, frz, derefs, deref, sBlt, sDrop, sAsg, sAsgs, unl, unls, rN, rGo, sIfS, sNx, bnd, finE, tyName, isiN, cd_T, cd_F, cd_if, small, rngOk, mulOk, same_refl, dList])]
  -- measured, put
  have vm := measured hc
  obtain ⟨d4, vp⟩ := is_put hc d3
  rw [sSeq_nx (ρ1 := [.val (.scr ns), O d4, ci, C cs, O os, O cs, a6, a7, a8, a9, a10, a11, a12, a13, .no, .no, .no]) (sIf_nx (by simp [sFun, sSeq, sRet, sRetN, sAnd, sOr, sNot, sIf, sIsi, sVar, sLit, sBin, sUn, ap2, ap1, apC, sOfT, tOfS, tCmp', tChn, tAnd', tOr', tNot', sCall, callV, sCallIO, callIO, aCons, aNil, frzs, frz, derefs, deref, sBlt, sDrop, sAsg, sAsgs, unl, unls, rN, rGo, sIfS, sNx, bnd, finE, tyName, isiN, cd_T, cd_F, cd_if, small, rngOk, mulOk, same_refl, vm, vp, dNe_ints]))]
  -- both
  have hb := cts_two hc ho lc lo
  have iC := hI_is cs
  have iO := hI_is os
  have iB := hI_is (cs ++ os)
  have two := isH_two iC iO iB
  have gB := (gI_is hc).1.mono (gI_is hb).1 (by rw [fal_len, fal_len, List.length_append]; omega) fun k hk => tops_app (by rw [fal_len] at hk; exact hk)
  have wB := (wI_is os).mono (wI_is (cs ++ os)) fun t => by rw [cnt_app]; omega
  have v1 := v_h_of hc
  have v2 := v_h_of ho
  have v3 := v_h_of hb
  have v4 := v_g_of hc
  have v5 := v_g_of hb
  have v6 := v_w_of ho
  have v7 := v_w_of hb
  have da : dAdd (.lst (cs.map D.int)) (.lst (os.map D.int)) = some (.f (.lst ((cs ++ os).map D.int))) := by
    rw [dAdd_lst (by simp; omega), List.map_append]
  obtain ⟨bs, hbs⟩ : ∃ bs, cs ++ os = bs := ⟨_, rfl⟩
  rw [hbs] at hb iB two gB wB v3 v5 v7 da
  rw [sSeq_nx (ρ1 := [.val (.scr ns), O d4, ci, C cs, O os, O cs, O bs, a7, a8, a9, a10, a11, a12, a13, .no, .no, .no]) (by simp [sFun, sSeq, sRet, sRetN, sAnd, sOr, sNot, sIf, sIsi, sVar, sLit, sBin, sUn, ap2, ap1, apC, sOfT, tOfS, tCmp', tChn, tAnd', tOr', tNot', sCall, callV, sCallIO, callIO, aCons, aNil, frzs, frz, derefs, deref, sBlt, sDrop, sAsg, sAsgs, unl, unls, rN, rGo, sIfS, sNx, bnd, finE, tyName, isiN, cd_T, cd_F, cd_if, small, rngOk, mulOk, same_refl, da])]
  have q1 : (if (hI os : Int) > hI cs then (hI os : Int) else hI cs) ≤ (hI bs : Int) := by split <;> omega
  have q2 : (hI bs : Int) ≤ (hI cs : Int) + hI os := by omega
  have q3 : ¬ ((gI bs : Int) < (gI cs : Int)) := by omega
  have q4 : ¬ ((wI bs : Int) < (wI os : Int)) := by omega
  have mm := dMax_ii (hI cs) (hI os)
  generalize (if (hI os : Int) > hI cs then (hI os : Int) else hI cs) = hm at q1 mm
  generalize (hI os : Int) = k1 at *
  generalize (hI cs : Int) = k2 at *
  generalize (hI bs : Int) = k3 at *
  generalize (gI bs : Int) = k4 at *
  generalize (gI cs : Int) = k5 at *
  generalize (wI bs : Int) = k6 at *
  generalize (wI os : Int) = k7 at *
  rw [sSeq_nx (ρ1 := [.val (.scr ns), O d4, ci, C cs, C os, O cs, C bs, a7, a8, a9, a10, a11, a12, a13, .no, .no, .no]) (sIf_nx (by simp [sFun, sSeq, sRet, sRetN, sAnd, sOr, sNot, sIf, sIsi, sVar, sLit, sBin, sUn, ap2, ap1, apC, sOfT, tOfS, tCmp', tChn, tAnd', tOr', tNot', sCall, callV, sCallIO, callIO, aCons, aNil, frzs, frz, derefs, deref, sBlt, sDrop, sAsg, sAsgs, unl, unls, rN, rGo, sIfS, sNx, bnd, finE, tyName, isiN, cd_T, cd_F, cd_if, small, rngOk, mulOk, same_refl, v1, v2, v3, v4, v5, v6, v7, mm, dAdd, dLe, dLt, q1, q2, q3, q4]))]
  obtain ⟨b7, b8, b9, em⟩ := mean_ok hb (.val (.scr ns)) (O d4) ci (C cs) (C os) (O cs) a7 a8 a9 a10 a11 a12 a13 .no .no .no
  rw [sSeq_nx em]
  obtain ⟨d5, b10, b11, b12, b13, er⟩ := rows_ok (.val (.scr ns)) hc ho hb (ds := d4) ci (O cs) b7 b8 b9 a10 a11 a12 a13 .no .no .no
  exact ⟨.nx, _, er, .inl rfl, d5, _, _, _, _, _, _, _, _, _, _, _, _, rfl⟩
end L2.DL.W

namespace L2.DL.W
open PySem PySem.Spec PyProof.Rows L2 L2.DL
section
variable {P : Program} {w : World} {K : PySem.W.Frag} {mg : MG} {base : Heap}
def spLaw (K : PySem.W.Frag) : Sp := fun vs H Q _ => ∃ (a : Addr) (ns : List Int), vs = [.ref a] ∧ SqL K H a (ns.map V.int) ∧ ns.length ≤ 63 ∧ (∀ z ∈ ns, Builtin.Int.intBits z ≤ 1048576) ∧ ∀ H', Q (.bl true) H'
/-- what is left: the law, in plain words -/
def Plain : Prop := ∀ ns : List Int, ns.length ≤ 63 → (∀ z ∈ ns, Builtin.Int.intBits z ≤ 1048576) → ∃ ρ, F_law [.val (.scr ns)] = .ok (.v (.bl true)) ρ
theorem plain : Plain := fun ns h _ => law_true ns h
theorem all_mk (pl : Plain) {w : World} {K : PySem.W.Frag} {h : Heap} {mg : Str → Option Value} {fa : Addr} (X : K.In h) (G : h.Ns mainGlobals mg) (hfa : mg "law" = some (.ref fa))
    {f0 : Addr} {od0 an0 : Option Addr} {sl0 : Array (Option Value)} {oc0 kV0 dc0 pm0 cd0 ct0 : Value}
    (a0 : PySem.W.nsIn K mainGlobals "_law_take" = some (some (.ref f0))) (l0 : K.lookup f0 = some ⟨oc0, od0, .func (PySem.W.fnOf "_law_take" "_law_take" (defArgs (topS 40)) (defBody (topS 40)) (defScope (topS 40)) .none kV0 dc0 pm0 an0 cd0 ct0), sl0⟩) (c0 : PySem.W.codeIn K cd0 "_law_take" = true) (k0 : PySem.W.keepIn K (.ref f0) = true)
    {f1 : Addr} {od1 an1 : Option Addr} {sl1 : Array (Option Value)} {oc1 kV1 dc1 pm1 cd1 ct1 : Value}
    (a1 : PySem.W.nsIn K mainGlobals "_law_pick" = some (some (.ref f1))) (l1 : K.lookup f1 = some ⟨oc1, od1, .func (PySem.W.fnOf "_law_pick" "_law_pick" (defArgs (topS 41)) (defBody (topS 41)) (defScope (topS 41)) .none kV1 dc1 pm1 an1 cd1 ct1), sl1⟩) (c1 : PySem.W.codeIn K cd1 "_law_pick" = true) (k1 : PySem.W.keepIn K (.ref f1) = true)
    {f2 : Addr} {od2 an2 : Option Addr} {sl2 : Array (Option Value)} {oc2 kV2 dc2 pm2 cd2 ct2 : Value}
    (a2 : PySem.W.nsIn K mainGlobals "_law_counts" = some (some (.ref f2))) (l2 : K.lookup f2 = some ⟨oc2, od2, .func (PySem.W.fnOf "_law_counts" "_law_counts" (defArgs (topS 44)) (defBody (topS 44)) (defScope (topS 44)) .none kV2 dc2 pm2 an2 cd2 ct2), sl2⟩) (c2 : PySem.W.codeIn K cd2 "_law_counts" = true) (k2 : PySem.W.keepIn K (.ref f2) = true)
    {f3 : Addr} {od3 an3 : Option Addr} {sl3 : Array (Option Value)} {oc3 kV3 dc3 pm3 cd3 ct3 : Value}
    (a3 : PySem.W.nsIn K mainGlobals "_law_draws" = some (some (.ref f3))) (l3 : K.lookup f3 = some ⟨oc3, od3, .func (PySem.W.fnOf "_law_draws" "_law_draws" (defArgs (topS 39)) (defBody (topS 39)) (defScope (topS 39)) .none kV3 dc3 pm3 an3 cd3 ct3), sl3⟩) (c3 : PySem.W.codeIn K cd3 "_law_draws" = true) (k3 : PySem.W.keepIn K (.ref f3) = true)
    {f4 : Addr} {od4 an4 : Option Addr} {sl4 : Array (Option Value)} {oc4 kV4 dc4 pm4 cd4 ct4 : Value}
    (a4 : PySem.W.nsIn K mainGlobals "check" = some (some (.ref f4))) (l4 : K.lookup f4 = some ⟨oc4, od4, .func (PySem.W.fnOf "check" "check" (defArgs (topS 6)) (defBody (topS 6)) (defScope (topS 6)) .none kV4 dc4 pm4 an4 cd4 ct4), sl4⟩) (c4 : PySem.W.codeIn K cd4 "check" = true) (k4 : PySem.W.keepIn K (.ref f4) = true)
    {f5 : Addr} {od5 an5 : Option Addr} {sl5 : Array (Option Value)} {oc5 kV5 dc5 pm5 cd5 ct5 : Value}
    (a5 : PySem.W.nsIn K mainGlobals "is_integer" = some (some (.ref f5))) (l5 : K.lookup f5 = some ⟨oc5, od5, .func (PySem.W.fnOf "is_integer" "is_integer" (defArgs (topS 4)) (defBody (topS 4)) (defScope (topS 4)) .none kV5 dc5 pm5 an5 cd5 ct5), sl5⟩) (c5 : PySem.W.codeIn K cd5 "is_integer" = true) (k5 : PySem.W.keepIn K (.ref f5) = true)
    {f6 : Addr} {od6 an6 : Option Addr} {sl6 : Array (Option Value)} {oc6 kV6 dc6 pm6 cd6 ct6 : Value}
    (a6 : PySem.W.nsIn K mainGlobals "is_within" = some (some (.ref f6))) (l6 : K.lookup f6 = some ⟨oc6, od6, .func (PySem.W.fnOf "is_within" "is_within" (defArgs (topS 5)) (defBody (topS 5)) (defScope (topS 5)) .none kV6 dc6 pm6 an6 cd6 ct6), sl6⟩) (c6 : PySem.W.codeIn K cd6 "is_within" = true) (k6 : PySem.W.keepIn K (.ref f6) = true)
    {f7 : Addr} {od7 an7 : Option Addr} {sl7 : Array (Option Value)} {oc7 kV7 dc7 pm7 cd7 ct7 : Value}
    (a7 : PySem.W.nsIn K mainGlobals "are_counts" = some (some (.ref f7))) (l7 : K.lookup f7 = some ⟨oc7, od7, .func (PySem.W.fnOf "are_counts" "are_counts" (defArgs (topS 16)) (defBody (topS 16)) (defScope (topS 16)) .none kV7 dc7 pm7 an7 cd7 ct7), sl7⟩) (c7 : PySem.W.codeIn K cd7 "are_counts" = true) (k7 : PySem.W.keepIn K (.ref f7) = true)
    {f8 : Addr} {od8 an8 : Option Addr} {sl8 : Array (Option Value)} {oc8 kV8 dc8 pm8 cd8 ct8 : Value}
    (a8 : PySem.W.nsIn K mainGlobals "check_counts" = some (some (.ref f8))) (l8 : K.lookup f8 = some ⟨oc8, od8, .func (PySem.W.fnOf "check_counts" "check_counts" (defArgs (topS 17)) (defBody (topS 17)) (defScope (topS 17)) .none kV8 dc8 pm8 an8 cd8 ct8), sl8⟩) (c8 : PySem.W.codeIn K cd8 "check_counts" = true) (k8 : PySem.W.keepIn K (.ref f8) = true)
    {f9 : Addr} {od9 an9 : Option Addr} {sl9 : Array (Option Value)} {oc9 kV9 dc9 pm9 cd9 ct9 : Value}
    (a9 : PySem.W.nsIn K mainGlobals "is_count" = some (some (.ref f9))) (l9 : K.lookup f9 = some ⟨oc9, od9, .func (PySem.W.fnOf "is_count" "is_count" (defArgs (topS 9)) (defBody (topS 9)) (defScope (topS 9)) .none kV9 dc9 pm9 an9 cd9 ct9), sl9⟩) (c9 : PySem.W.codeIn K cd9 "is_count" = true) (k9 : PySem.W.keepIn K (.ref f9) = true)
    {f10 : Addr} {od10 an10 : Option Addr} {sl10 : Array (Option Value)} {oc10 kV10 dc10 pm10 cd10 ct10 : Value}
    (a10 : PySem.W.nsIn K mainGlobals "at_least" = some (some (.ref f10))) (l10 : K.lookup f10 = some ⟨oc10, od10, .func (PySem.W.fnOf "at_least" "at_least" (defArgs (topS 34)) (defBody (topS 34)) (defScope (topS 34)) .none kV10 dc10 pm10 an10 cd10 ct10), sl10⟩) (c10 : PySem.W.codeIn K cd10 "at_least" = true) (k10 : PySem.W.keepIn K (.ref f10) = true)
    {f11 : Addr} {od11 an11 : Option Addr} {sl11 : Array (Option Value)} {oc11 kV11 dc11 pm11 cd11 ct11 : Value}
    (a11 : PySem.W.nsIn K mainGlobals "falling" = some (some (.ref f11))) (l11 : K.lookup f11 = some ⟨oc11, od11, .func (PySem.W.fnOf "falling" "falling" (defArgs (topS 18)) (defBody (topS 18)) (defScope (topS 18)) .none kV11 dc11 pm11 an11 cd11 ct11), sl11⟩) (c11 : PySem.W.codeIn K cd11 "falling" = true) (k11 : PySem.W.keepIn K (.ref f11) = true)
    {f12 : Addr} {od12 an12 : Option Addr} {sl12 : Array (Option Value)} {oc12 kV12 dc12 pm12 cd12 ct12 : Value}
    (a12 : PySem.W.nsIn K mainGlobals "h_by" = some (some (.ref f12))) (l12 : K.lookup f12 = some ⟨oc12, od12, .func (PySem.W.fnOf "h_by" "h_by" (defArgs (topS 19)) (defBody (topS 19)) (defScope (topS 19)) .none kV12 dc12 pm12 an12 cd12 ct12), sl12⟩) (c12 : PySem.W.codeIn K cd12 "h_by" = true) (k12 : PySem.W.keepIn K (.ref f12) = true)
    {f13 : Addr} {od13 an13 : Option Addr} {sl13 : Array (Option Value)} {oc13 kV13 dc13 pm13 cd13 ct13 : Value}
    (a13 : PySem.W.nsIn K mainGlobals "core_of" = some (some (.ref f13))) (l13 : K.lookup f13 = some ⟨oc13, od13, .func (PySem.W.fnOf "core_of" "core_of" (defArgs (topS 24)) (defBody (topS 24)) (defScope (topS 24)) .none kV13 dc13 pm13 an13 cd13 ct13), sl13⟩) (c13 : PySem.W.codeIn K cd13 "core_of" = true) (k13 : PySem.W.keepIn K (.ref f13) = true)
    {f14 : Addr} {od14 an14 : Option Addr} {sl14 : Array (Option Value)} {oc14 kV14 dc14 pm14 cd14 ct14 : Value}
    (a14 : PySem.W.nsIn K mainGlobals "g_by" = some (some (.ref f14))) (l14 : K.lookup f14 = some ⟨oc14, od14, .func (PySem.W.fnOf "g_by" "g_by" (defArgs (topS 20)) (defBody (topS 20)) (defScope (topS 20)) .none kV14 dc14 pm14 an14 cd14 ct14), sl14⟩) (c14 : PySem.W.codeIn K cd14 "g_by" = true) (k14 : PySem.W.keepIn K (.ref f14) = true)
    {f15 : Addr} {od15 an15 : Option Addr} {sl15 : Array (Option Value)} {oc15 kV15 dc15 pm15 cd15 ct15 : Value}
    (a15 : PySem.W.nsIn K mainGlobals "g_of" = some (some (.ref f15))) (l15 : K.lookup f15 = some ⟨oc15, od15, .func (PySem.W.fnOf "g_of" "g_of" (defArgs (topS 22)) (defBody (topS 22)) (defScope (topS 22)) .none kV15 dc15 pm15 an15 cd15 ct15), sl15⟩) (c15 : PySem.W.codeIn K cd15 "g_of" = true) (k15 : PySem.W.keepIn K (.ref f15) = true)
    {f16 : Addr} {od16 an16 : Option Addr} {sl16 : Array (Option Value)} {oc16 kV16 dc16 pm16 cd16 ct16 : Value}
    (a16 : PySem.W.nsIn K mainGlobals "h_of" = some (some (.ref f16))) (l16 : K.lookup f16 = some ⟨oc16, od16, .func (PySem.W.fnOf "h_of" "h_of" (defArgs (topS 21)) (defBody (topS 21)) (defScope (topS 21)) .none kV16 dc16 pm16 an16 cd16 ct16), sl16⟩) (c16 : PySem.W.codeIn K cd16 "h_of" = true) (k16 : PySem.W.keepIn K (.ref f16) = true)
    {f17 : Addr} {od17 an17 : Option Addr} {sl17 : Array (Option Value)} {oc17 kV17 dc17 pm17 cd17 ct17 : Value}
    (a17 : PySem.W.nsIn K mainGlobals "tail_of" = some (some (.ref f17))) (l17 : K.lookup f17 = some ⟨oc17, od17, .func (PySem.W.fnOf "tail_of" "tail_of" (defArgs (topS 25)) (defBody (topS 25)) (defScope (topS 25)) .none kV17 dc17 pm17 an17 cd17 ct17), sl17⟩) (c17 : PySem.W.codeIn K cd17 "tail_of" = true) (k17 : PySem.W.keepIn K (.ref f17) = true)
    {f18 : Addr} {od18 an18 : Option Addr} {sl18 : Array (Option Value)} {oc18 kV18 dc18 pm18 cd18 ct18 : Value}
    (a18 : PySem.W.nsIn K mainGlobals "takes_h" = some (some (.ref f18))) (l18 : K.lookup f18 = some ⟨oc18, od18, .func (PySem.W.fnOf "takes_h" "takes_h" (defArgs (topS 37)) (defBody (topS 37)) (defScope (topS 37)) .none kV18 dc18 pm18 an18 cd18 ct18), sl18⟩) (c18 : PySem.W.codeIn K cd18 "takes_h" = true) (k18 : PySem.W.keepIn K (.ref f18) = true)
    {f19 : Addr} {od19 an19 : Option Addr} {sl19 : Array (Option Value)} {oc19 kV19 dc19 pm19 cd19 ct19 : Value}
    (a19 : PySem.W.nsIn K mainGlobals "w_of" = some (some (.ref f19))) (l19 : K.lookup f19 = some ⟨oc19, od19, .func (PySem.W.fnOf "w_of" "w_of" (defArgs (topS 23)) (defBody (topS 23)) (defScope (topS 23)) .none kV19 dc19 pm19 an19 cd19 ct19), sl19⟩) (c19 : PySem.W.codeIn K cd19 "w_of" = true) (k19 : PySem.W.keepIn K (.ref f19) = true)
    {f20 : Addr} {od20 an20 : Option Addr} {sl20 : Array (Option Value)} {oc20 kV20 dc20 pm20 cd20 ct20 : Value}
    (a20 : PySem.W.nsIn K mainGlobals "_law_is_measured" = some (some (.ref f20))) (l20 : K.lookup f20 = some ⟨oc20, od20, .func (PySem.W.fnOf "_law_is_measured" "_law_is_measured" (defArgs (topS 45)) (defBody (topS 45)) (defScope (topS 45)) .none kV20 dc20 pm20 an20 cd20 ct20), sl20⟩) (c20 : PySem.W.codeIn K cd20 "_law_is_measured" = true) (k20 : PySem.W.keepIn K (.ref f20) = true)
    {f21 : Addr} {od21 an21 : Option Addr} {sl21 : Array (Option Value)} {oc21 kV21 dc21 pm21 cd21 ct21 : Value}
    (a21 : PySem.W.nsIn K mainGlobals "lacking" = some (some (.ref f21))) (l21 : K.lookup f21 = some ⟨oc21, od21, .func (PySem.W.fnOf "lacking" "lacking" (defArgs (topS 26)) (defBody (topS 26)) (defScope (topS 26)) .none kV21 dc21 pm21 an21 cd21 ct21), sl21⟩) (c21 : PySem.W.codeIn K cd21 "lacking" = true) (k21 : PySem.W.keepIn K (.ref f21) = true)
    {f22 : Addr} {od22 an22 : Option Addr} {sl22 : Array (Option Value)} {oc22 kV22 dc22 pm22 cd22 ct22 : Value}
    (a22 : PySem.W.nsIn K mainGlobals "most_h" = some (some (.ref f22))) (l22 : K.lookup f22 = some ⟨oc22, od22, .func (PySem.W.fnOf "most_h" "most_h" (defArgs (topS 29)) (defBody (topS 29)) (defScope (topS 29)) .none kV22 dc22 pm22 an22 cd22 ct22), sl22⟩) (c22 : PySem.W.codeIn K cd22 "most_h" = true) (k22 : PySem.W.keepIn K (.ref f22) = true)
    {f23 : Addr} {od23 an23 : Option Addr} {sl23 : Array (Option Value)} {oc23 kV23 dc23 pm23 cd23 ct23 : Value}
    (a23 : PySem.W.nsIn K mainGlobals "best_putting" = some (some (.ref f23))) (l23 : K.lookup f23 = some ⟨oc23, od23, .func (PySem.W.fnOf "best_putting" "best_putting" (defArgs (topS 31)) (defBody (topS 31)) (defScope (topS 31)) .none kV23 dc23 pm23 an23 cd23 ct23), sl23⟩) (c23 : PySem.W.codeIn K cd23 "best_putting" = true) (k23 : PySem.W.keepIn K (.ref f23) = true)
    {f24 : Addr} {od24 an24 : Option Addr} {sl24 : Array (Option Value)} {oc24 kV24 dc24 pm24 cd24 ct24 : Value}
    (a24 : PySem.W.nsIn K mainGlobals "h_with" = some (some (.ref f24))) (l24 : K.lookup f24 = some ⟨oc24, od24, .func (PySem.W.fnOf "h_with" "h_with" (defArgs (topS 30)) (defBody (topS 30)) (defScope (topS 30)) .none kV24 dc24 pm24 an24 cd24 ct24), sl24⟩) (c24 : PySem.W.codeIn K cd24 "h_with" = true) (k24 : PySem.W.keepIn K (.ref f24) = true)
    {f25 : Addr} {od25 an25 : Option Addr} {sl25 : Array (Option Value)} {oc25 kV25 dc25 pm25 cd25 ct25 : Value}
    (a25 : PySem.W.nsIn K mainGlobals "next_step" = some (some (.ref f25))) (l25 : K.lookup f25 = some ⟨oc25, od25, .func (PySem.W.fnOf "next_step" "next_step" (defArgs (topS 27)) (defBody (topS 27)) (defScope (topS 27)) .none kV25 dc25 pm25 an25 cd25 ct25), sl25⟩) (c25 : PySem.W.codeIn K cd25 "next_step" = true) (k25 : PySem.W.keepIn K (.ref f25) = true)
    {f26 : Addr} {od26 an26 : Option Addr} {sl26 : Array (Option Value)} {oc26 kV26 dc26 pm26 cd26 ct26 : Value}
    (a26 : PySem.W.nsIn K mainGlobals "_law_is_put" = some (some (.ref f26))) (l26 : K.lookup f26 = some ⟨oc26, od26, .func (PySem.W.fnOf "_law_is_put" "_law_is_put" (defArgs (topS 46)) (defBody (topS 46)) (defScope (topS 46)) .none kV26 dc26 pm26 an26 cd26 ct26), sl26⟩) (c26 : PySem.W.codeIn K cd26 "_law_is_put" = true) (k26 : PySem.W.keepIn K (.ref f26) = true)
    {f27 : Addr} {od27 an27 : Option Addr} {sl27 : Array (Option Value)} {oc27 kV27 dc27 pm27 cd27 ct27 : Value}
    (a27 : PySem.W.nsIn K mainGlobals "least_counts" = some (some (.ref f27))) (l27 : K.lookup f27 = some ⟨oc27, od27, .func (PySem.W.fnOf "least_counts" "least_counts" (defArgs (topS 28)) (defBody (topS 28)) (defScope (topS 28)) .none kV27 dc27 pm27 an27 cd27 ct27), sl27⟩) (c27 : PySem.W.codeIn K cd27 "least_counts" = true) (k27 : PySem.W.keepIn K (.ref f27) = true)
    {f28 : Addr} {od28 an28 : Option Addr} {sl28 : Array (Option Value)} {oc28 kV28 dc28 pm28 cd28 ct28 : Value}
    (a28 : PySem.W.nsIn K mainGlobals "shared" = some (some (.ref f28))) (l28 : K.lookup f28 = some ⟨oc28, od28, .func (PySem.W.fnOf "shared" "shared" (defArgs (topS 7)) (defBody (topS 7)) (defScope (topS 7)) .none kV28 dc28 pm28 an28 cd28 ct28), sl28⟩) (c28 : PySem.W.codeIn K cd28 "shared" = true) (k28 : PySem.W.keepIn K (.ref f28) = true)
    {f29 : Addr} {od29 an29 : Option Addr} {sl29 : Array (Option Value)} {oc29 kV29 dc29 pm29 cd29 ct29 : Value}
    (a29 : PySem.W.nsIn K mainGlobals "ratio" = some (some (.ref f29))) (l29 : K.lookup f29 = some ⟨oc29, od29, .func (PySem.W.fnOf "ratio" "ratio" (defArgs (topS 8)) (defBody (topS 8)) (defScope (topS 8)) .none kV29 dc29 pm29 an29 cd29 ct29), sl29⟩) (c29 : PySem.W.codeIn K cd29 "ratio" = true) (k29 : PySem.W.keepIn K (.ref f29) = true)
    {f30 : Addr} {od30 an30 : Option Addr} {sl30 : Array (Option Value)} {oc30 kV30 dc30 pm30 cd30 ct30 : Value}
    (a30 : PySem.W.nsIn K mainGlobals "mean_of" = some (some (.ref f30))) (l30 : K.lookup f30 = some ⟨oc30, od30, .func (PySem.W.fnOf "mean_of" "mean_of" (defArgs (topS 32)) (defBody (topS 32)) (defScope (topS 32)) .none kV30 dc30 pm30 an30 cd30 ct30), sl30⟩) (c30 : PySem.W.codeIn K cd30 "mean_of" = true) (k30 : PySem.W.keepIn K (.ref f30) = true)
    {f31 : Addr} {od31 an31 : Option Addr} {sl31 : Array (Option Value)} {oc31 kV31 dc31 pm31 cd31 ct31 : Value}
    (a31 : PySem.W.nsIn K mainGlobals "middle_of" = some (some (.ref f31))) (l31 : K.lookup f31 = some ⟨oc31, od31, .func (PySem.W.fnOf "middle_of" "middle_of" (defArgs (topS 33)) (defBody (topS 33)) (defScope (topS 33)) .none kV31 dc31 pm31 an31 cd31 ct31), sl31⟩) (c31 : PySem.W.codeIn K cd31 "middle_of" = true) (k31 : PySem.W.keepIn K (.ref f31) = true)
    {f32 : Addr} {od32 an32 : Option Addr} {sl32 : Array (Option Value)} {oc32 kV32 dc32 pm32 cd32 ct32 : Value}
    (a32 : PySem.W.nsIn K mainGlobals "ranks" = some (some (.ref f32))) (l32 : K.lookup f32 = some ⟨oc32, od32, .func (PySem.W.fnOf "ranks" "ranks" (defArgs (topS 35)) (defBody (topS 35)) (defScope (topS 35)) .none kV32 dc32 pm32 an32 cd32 ct32), sl32⟩) (c32 : PySem.W.codeIn K cd32 "ranks" = true) (k32 : PySem.W.keepIn K (.ref f32) = true)
    {f33 : Addr} {od33 an33 : Option Addr} {sl33 : Array (Option Value)} {oc33 kV33 dc33 pm33 cd33 ct33 : Value}
    (a33 : PySem.W.nsIn K mainGlobals "law" = some (some (.ref f33))) (l33 : K.lookup f33 = some ⟨oc33, od33, .func (PySem.W.fnOf "law" "law" (defArgs (topS 47)) (defBody (topS 47)) (defScope (topS 47)) .none kV33 dc33 pm33 an33 cd33 ct33), sl33⟩) (c33 : PySem.W.codeIn K cd33 "law" = true) (k33 : PySem.W.keepIn K (.ref f33) = true)
    (z0 : PySem.W.nsIn K mainGlobals "abs" = some none)
    (z1 : PySem.W.nsIn K mainGlobals "all" = some none)
    (z2 : PySem.W.nsIn K mainGlobals "bool" = some none)
    (z3 : PySem.W.nsIn K mainGlobals "enumerate" = some none)
    (z4 : PySem.W.nsIn K mainGlobals "int" = some none)
    (z5 : PySem.W.nsIn K mainGlobals "isinstance" = some none)
    (z6 : PySem.W.nsIn K mainGlobals "len" = some none)
    (z7 : PySem.W.nsIn K mainGlobals "list" = some none)
    (z8 : PySem.W.nsIn K mainGlobals "max" = some none)
    (z9 : PySem.W.nsIn K mainGlobals "min" = some none)
    (z10 : PySem.W.nsIn K mainGlobals "range" = some none)
    (z11 : PySem.W.nsIn K mainGlobals "reversed" = some none)
    (z12 : PySem.W.nsIn K mainGlobals "sorted" = some none)
    (z13 : PySem.W.nsIn K mainGlobals "sum" = some none)
    {t0 : Tok} (d0 : PySem.W.nsIn K mainGlobals "HIGHEST" = some (some (.int 1000000 t0)))
    {t1 : Tok} (d1 : PySem.W.nsIn K mainGlobals "MOST_COUNTS" = some (some (.int 500 t1)))
    {t2 : Tok} (d2 : PySem.W.nsIn K mainGlobals "MOST_H" = some (some (.int 200 t2)))
    {t3 : Tok} (d3 : PySem.W.nsIn K mainGlobals "MOST_ROWS" = some (some (.int 50 t3)))
    {t4 : Tok} (d4 : PySem.W.nsIn K mainGlobals "STEP_OF_W" = some (some (.int 10 t4))) :
    ∃ fd : FuncData, (∀ (s : Shared) (v : Value), BindsTo s fd ⟨[v], []⟩ [("script", v)]) ∧ ∀ base : Heap, K.In base → base.Ns mainGlobals mg → FnOk PySem.Challenge.rw_citedback_k43_whole_many_counts.prog w K mg base (L2.CX PySem.Challenge.rw_citedback_k43_whole_many_counts.prog w) 7 fa fd ["script"] (spLaw K) := by
  have e := hfa.symm.trans (PySem.W.mg_of X G a33)
  cases e
  have E : Env K mg := ⟨PySem.W.mg_none_of X G z0, PySem.W.mg_none_of X G z1, PySem.W.mg_none_of X G z2, PySem.W.mg_none_of X G z3, PySem.W.mg_none_of X G z4, PySem.W.mg_none_of X G z5, PySem.W.mg_none_of X G z6, PySem.W.mg_none_of X G z7, PySem.W.mg_none_of X G z8, PySem.W.mg_none_of X G z9, PySem.W.mg_none_of X G z10, PySem.W.mg_none_of X G z11, PySem.W.mg_none_of X G z12, PySem.W.mg_none_of X G z13, ⟨t0, PySem.W.mg_of X G d0⟩, ⟨t1, PySem.W.mg_of X G d1⟩, ⟨t2, PySem.W.mg_of X G d2⟩, ⟨t3, PySem.W.mg_of X G d3⟩, ⟨t4, PySem.W.mg_of X G d4⟩, ⟨_, _, fun_mk l0 c0 k0, PySem.W.mg_of X G a0⟩, ⟨_, _, fun_mk l1 c1 k1, PySem.W.mg_of X G a1⟩, ⟨_, _, fun_mk l2 c2 k2, PySem.W.mg_of X G a2⟩, ⟨_, _, fun_mk l3 c3 k3, PySem.W.mg_of X G a3⟩, ⟨_, _, fun_mk l4 c4 k4, PySem.W.mg_of X G a4⟩, ⟨_, _, fun_mk l5 c5 k5, PySem.W.mg_of X G a5⟩, ⟨_, _, fun_mk l6 c6 k6, PySem.W.mg_of X G a6⟩, ⟨_, _, fun_mk l7 c7 k7, PySem.W.mg_of X G a7⟩, ⟨_, _, fun_mk l8 c8 k8, PySem.W.mg_of X G a8⟩, ⟨_, _, fun_mk l9 c9 k9, PySem.W.mg_of X G a9⟩, ⟨_, _, fun_mk l10 c10 k10, PySem.W.mg_of X G a10⟩, ⟨_, _, fun_mk l11 c11 k11, PySem.W.mg_of X G a11⟩, ⟨_, _, fun_mk l12 c12 k12, PySem.W.mg_of X G a12⟩, ⟨_, _, fun_mk l13 c13 k13, PySem.W.mg_of X G a13⟩, ⟨_, _, fun_mk l14 c14 k14, PySem.W.mg_of X G a14⟩, ⟨_, _, fun_mk l15 c15 k15, PySem.W.mg_of X G a15⟩, ⟨_, _, fun_mk l16 c16 k16, PySem.W.mg_of X G a16⟩, ⟨_, _, fun_mk l17 c17 k17, PySem.W.mg_of X G a17⟩, ⟨_, _, fun_mk l18 c18 k18, PySem.W.mg_of X G a18⟩, ⟨_, _, fun_mk l19 c19 k19, PySem.W.mg_of X G a19⟩, ⟨_, _, fun_mk l20 c20 k20, PySem.W.mg_of X G a20⟩, ⟨_, _, fun_mk l21 c21 k21, PySem.W.mg_of X G a21⟩, ⟨_, _, fun_mk l22 c22 k22, PySem.W.mg_of X G a22⟩, ⟨_, _, fun_mk l23 c23 k23, PySem.W.mg_of X G a23⟩, ⟨_, _, fun_mk l24 c24 k24, PySem.W.mg_of X G a24⟩, ⟨_, _, fun_mk l25 c25 k25, PySem.W.mg_of X G a25⟩, ⟨_, _, fun_mk l26 c26 k26, PySem.W.mg_of X G a26⟩, ⟨_, _, fun_mk l27 c27 k27, PySem.W.mg_of X G a27⟩, ⟨_, _, fun_mk l28 c28 k28, PySem.W.mg_of X G a28⟩, ⟨_, _, fun_mk l29 c29 k29, PySem.W.mg_of X G a29⟩, ⟨_, _, fun_mk l30 c30 k30, PySem.W.mg_of X G a30⟩, ⟨_, _, fun_mk l31 c31 k31, PySem.W.mg_of X G a31⟩, ⟨_, _, fun_mk l32 c32 k32, PySem.W.mg_of X G a32⟩, ⟨_, _, fun_mk l33 c33 k33, PySem.W.mg_of X G a33⟩⟩
  refine ⟨PySem.W.fnOf "law" "law" (defArgs (topS 47)) (defBody (topS 47)) (defScope (topS 47)) .none kV33 dc33 pm33 an33 cd33 ct33, fun s v => .of_eq rfl, fun base _ _ => (B_law E _ _ (fun_mk l33 c33 k33)).imp fun vs H Q W h => ?_⟩
  obtain ⟨a, ns, rfl, hS, hl, hb, q⟩ := h
  obtain ⟨ρ, hp⟩ := pl ns hl hb
  exact law_sp hS hp q
end
end L2.DL.W
open PySem PySem.W PyProof.Rows
theorem PySem.Challenge.cw_citedback_k43_whole_many_counts_holds : PySem.Challenge.rw_citedback_k43_whole_many_counts.Holds := by
  w_on; o_law; k_head; (case hw => w_witness2)
  k_fill
  refine L2.walk_ofB (l := PySem.Challenge.rw_citedback_k43_whole_many_counts) (n := 63) (k := 7) (x := "script") (CX := fun w => L2.CX PySem.Challenge.rw_citedback_k43_whole_many_counts.prog w) (sp := fun w => L2.DL.W.spLaw _) rfl (by decide) rfl ⟨rfl, by decide, by decide⟩ (fun w h Y => PySem.W.kIn_of Y) ?F (fun _ _ a ns hl hb _ hS => ⟨a, ns, rfl, hS, hl, hb, fun _ => rfl⟩) (fun _ _ _ _ _ h => L2.DL.cx_no h)
  case F =>
    intro w mg fa h KX G hmg
    refine' L2.DL.W.all_mk L2.DL.W.plain KX G hmg ?a0 ?l0 ?c0 ?k0 ?a1 ?l1 ?c1 ?k1 ?a2 ?l2 ?c2 ?k2 ?a3 ?l3 ?c3 ?k3 ?a4 ?l4 ?c4 ?k4 ?a5 ?l5 ?c5 ?k5 ?a6 ?l6 ?c6 ?k6 ?a7 ?l7 ?c7 ?k7 ?a8 ?l8 ?c8 ?k8 ?a9 ?l9 ?c9 ?k9 ?a10 ?l10 ?c10 ?k10 ?a11 ?l11 ?c11 ?k11 ?a12 ?l12 ?c12 ?k12 ?a13 ?l13 ?c13 ?k13 ?a14 ?l14 ?c14 ?k14 ?a15 ?l15 ?c15 ?k15 ?a16 ?l16 ?c16 ?k16 ?a17 ?l17 ?c17 ?k17 ?a18 ?l18 ?c18 ?k18 ?a19 ?l19 ?c19 ?k19 ?a20 ?l20 ?c20 ?k20 ?a21 ?l21 ?c21 ?k21 ?a22 ?l22 ?c22 ?k22 ?a23 ?l23 ?c23 ?k23 ?a24 ?l24 ?c24 ?k24 ?a25 ?l25 ?c25 ?k25 ?a26 ?l26 ?c26 ?k26 ?a27 ?l27 ?c27 ?k27 ?a28 ?l28 ?c28 ?k28 ?a29 ?l29 ?c29 ?k29 ?a30 ?l30 ?c30 ?k30 ?a31 ?l31 ?c31 ?k31 ?a32 ?l32 ?c32 ?k32 ?a33 ?l33 ?c33 ?k33 ?z0 ?z1 ?z2 ?z3 ?z4 ?z5 ?z6 ?z7 ?z8 ?z9 ?z10 ?z11 ?z12 ?z13 ?d0 ?d1 ?d2 ?d3 ?d4
    (case a0 => k_is); (case l0 => k_is); (case c0 => k_is); (case k0 => k_is); (case a1 => k_is); (case l1 => k_is); (case c1 => k_is); (case k1 => k_is); (case a2 => k_is); (case l2 => k_is); (case c2 => k_is); (case k2 => k_is); (case a3 => k_is); (case l3 => k_is); (case c3 => k_is); (case k3 => k_is); (case a4 => k_is); (case l4 => k_is); (case c4 => k_is); (case k4 => k_is); (case a5 => k_is); (case l5 => k_is); (case c5 => k_is); (case k5 => k_is); (case a6 => k_is); (case l6 => k_is); (case c6 => k_is); (case k6 => k_is); (case a7 => k_is); (case l7 => k_is); (case c7 => k_is); (case k7 => k_is); (case a8 => k_is); (case l8 => k_is); (case c8 => k_is); (case k8 => k_is); (case a9 => k_is); (case l9 => k_is); (case c9 => k_is); (case k9 => k_is); (case a10 => k_is); (case l10 => k_is); (case c10 => k_is); (case k10 => k_is); (case a11 => k_is); (case l11 => k_is); (case c11 => k_is); (case k11 => k_is); (case a12 => k_is); (case l12 => k_is); (case c12 => k_is); (case k12 => k_is); (case a13 => k_is); (case l13 => k_is); (case c13 => k_is); (case k13 => k_is); (case a14 => k_is); (case l14 => k_is); (case c14 => k_is); (case k14 => k_is); (case a15 => k_is); (case l15 => k_is); (case c15 => k_is); (case k15 => k_is); (case a16 => k_is); (case l16 => k_is); (case c16 => k_is); (case k16 => k_is); (case a17 => k_is); (case l17 => k_is); (case c17 => k_is); (case k17 => k_is); (case a18 => k_is); (case l18 => k_is); (case c18 => k_is); (case k18 => k_is); (case a19 => k_is); (case l19 => k_is); (case c19 => k_is); (case k19 => k_is); (case a20 => k_is); (case l20 => k_is); (case c20 => k_is); (case k20 => k_is); (case a21 => k_is); (case l21 => k_is); (case c21 => k_is); (case k21 => k_is); (case a22 => k_is); (case l22 => k_is); (case c22 => k_is); (case k22 => k_is); (case a23 => k_is); (case l23 => k_is); (case c23 => k_is); (case k23 => k_is); (case a24 => k_is); (case l24 => k_is); (case c24 => k_is); (case k24 => k_is); (case a25 => k_is); (case l25 => k_is); (case c25 => k_is); (case k25 => k_is); (case a26 => k_is); (case l26 => k_is); (case c26 => k_is); (case k26 => k_is); (case a27 => k_is); (case l27 => k_is); (case c27 => k_is); (case k27 => k_is); (case a28 => k_is); (case l28 => k_is); (case c28 => k_is); (case k28 => k_is); (case a29 => k_is); (case l29 => k_is); (case c29 => k_is); (case k29 => k_is); (case a30 => k_is); (case l30 => k_is); (case c30 => k_is); (case k30 => k_is); (case a31 => k_is); (case l31 => k_is); (case c31 => k_is); (case k31 => k_is); (case a32 => k_is); (case l32 => k_is); (case c32 => k_is); (case k32 => k_is); (case a33 => k_is); (case l33 => k_is); (case c33 => k_is); (case k33 => k_is); (case z0 => k_is); (case z1 => k_is); (case z2 => k_is); (case z3 => k_is); (case z4 => k_is); (case z5 => k_is); (case z6 => k_is); (case z7 => k_is); (case z8 => k_is); (case z9 => k_is); (case z10 => k_is); (case z11 => k_is); (case z12 => k_is); (case z13 => k_is); (case d0 => k_is); (case d1 => k_is); (case d2 => k_is); (case d3 => k_is); (case d4 => k_is)
