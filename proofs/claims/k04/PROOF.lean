import PyProof.Rows.All
import Wide.All
import OpenK.AllK
import Wide.FinOn
import HandS.ForMost
import HandS.Exc
import HandS.IsInst
import HandS.Style
import HandS.Deep
import HandS.Wide
import HandS.WideBits
import HandS.Gcd
import HandS.Text
import HandS.ExcOwn
import HandS.ExcInit
import HandS.Small
import HandS.WordsExc
import HandS.Defaults
import HandS.HeadHook2
import HandS.HeadHook4
import HandS.HeadEnd
import HandS.Codes
import KE.KStateDown
import Lean
import HandS.Head0
import HandS.Head1
import HandS.Head2
import HandS.Head3
import HandS.HeadHook1
import HandS.HeadHook3
import HandS.More
import HandS.Words
import PySem.Challenge.RW_buybook_k04_written_form_back
set_option Elab.async false
set_option linter.all false
set_option maxRecDepth 100000
namespace TL
open PySem PySem.Spec PyProof.Rows L2

/-! ### data trees -/
inductive D where
  | non | bl (b : Bool) | int (i : Int) | str (x : Str)
  | tup (xs : List D) | lst (xs : List D) | ins (c : Nat) (xs : List D)
  /-- the script -/
  | scr (ns : List Int)

/-- what the trees lean on: the written part, the classes -/
structure Gc where
  K : PySem.W.Frag
  cls : Nat → Addr
  flds : Nat → List Str
  /-- the module's constants -/
  cv : Nat → V

mutual
def Rep (g : Gc) (S : Hp) : D → V → Prop
  | .non, v => v = .non
  | .bl b, v => v = .bl b
  | .int i, v => v = .int i
  | .str x, v => v = .str x
  | .tup ds, v => ∃ a vs, v = .ref a ∧ SqT g.K S a vs ∧ Reps g S ds vs
  | .lst ds, v => ∃ a vs, v = .ref a ∧ S a = some (.lst vs) ∧ Reps g S ds vs
  | .scr ns, v => ∃ a, v = .ref a ∧ SqL g.K S a (ns.map V.int)
  | .ins c ds, v => ∃ a dx fs, v = .ref a ∧ S a = some (.ins (g.cls c) dx fs) ∧ fs.map (·.1) = g.flds c ∧ Reps g S ds (fs.map (·.2))
def Reps (g : Gc) (S : Hp) : List D → List V → Prop
  | [], vs => vs = []
  | d :: ds, vs => ∃ v r, vs = v :: r ∧ Rep g S d v ∧ Reps g S ds r
end

mutual
def D.flat : D → Bool
  | .non => true
  | .bl _ => true
  | .int _ => true
  | .str _ => true
  | .tup ds => flats ds
  | .lst _ => false
  | .ins _ _ => false
  | .scr _ => false
def flats : List D → Bool
  | [] => true
  | d :: ds => d.flat && flats ds
end

/-! ### sub-heaps -/
theorem SqL_mono {K : PySem.W.Frag} {S S' : Hp} {a : Addr} {vs : List V} (h : SqL K S a vs) (s : Same S S') : SqL K S' a vs := s.seq h
theorem SqT_mono {K : PySem.W.Frag} {S S' : Hp} {a : Addr} {vs : List V} (h : SqT K S a vs) (s : Same S S') : SqT K S' a vs := by
  rcases h with (h | ⟨o, h⟩) | h
  · exact .inl (.inl (s _ _ h))
  · exact .inl (.inr ⟨o, s _ _ h⟩)
  · exact .inr h

mutual
theorem Rep.mono {g : Gc} {S S' : Hp} (s : Same S S') : ∀ (d : D) (v : V), Rep g S d v → Rep g S' d v
  | .non, v, h => by simp only [Rep] at h ⊢; exact h
  | .bl b, v, h => by simp only [Rep] at h ⊢; exact h
  | .int i, v, h => by simp only [Rep] at h ⊢; exact h
  | .str x, v, h => by simp only [Rep] at h ⊢; exact h
  | .tup ds, v, h => by
    simp only [Rep] at h ⊢
    obtain ⟨a, vs, e, q, r⟩ := h
    exact ⟨a, vs, e, SqT_mono q s, Reps.mono s ds vs r⟩
  | .lst ds, v, h => by
    simp only [Rep] at h ⊢
    obtain ⟨a, vs, e, q, r⟩ := h
    exact ⟨a, vs, e, s _ _ q, Reps.mono s ds vs r⟩
  | .scr ns, v, h => by
    simp only [Rep] at h ⊢
    obtain ⟨a, e, q⟩ := h
    exact ⟨a, e, SqL_mono q s⟩
  | .ins c ds, v, h => by
    simp only [Rep] at h ⊢
    obtain ⟨a, dx, fs, e, q, n, r⟩ := h
    exact ⟨a, dx, fs, e, s _ _ q, n, Reps.mono s ds _ r⟩
theorem Reps.mono {g : Gc} {S S' : Hp} (s : Same S S') : ∀ (ds : List D) (vs : List V), Reps g S ds vs → Reps g S' ds vs
  | [], vs, h => by simp only [Reps] at h ⊢; exact h
  | d :: ds, vs, h => by
    simp only [Reps] at h ⊢
    obtain ⟨v, r, e, h1, h2⟩ := h
    exact ⟨v, r, e, Rep.mono s d v h1, Reps.mono s ds r h2⟩
end
/-- tuples stay -/
def SameT (S S' : Hp) : Prop := ∀ a, (∀ xs, S a = some (.tup xs) → S' a = some (.tup xs)) ∧ ∀ o u, S a = some (.frz o u) → S' a = some (.frz o u)
theorem SqT_flat {K : PySem.W.Frag} {S S' : Hp} {a : Addr} {vs : List V} (h : SqT K S a vs) (s : SameT S S') : SqT K S' a vs := by
  rcases h with (h | ⟨o, h⟩) | h
  · exact .inl (.inl ((s _).1 _ h))
  · exact .inl (.inr ⟨o, (s _).2 _ _ h⟩)
  · exact .inr h
mutual
theorem Rep.flat {g : Gc} {S S' : Hp} (s : SameT S S') : ∀ (d : D) (v : V), d.flat = true → Rep g S d v → Rep g S' d v
  | .non, v, _, h => by simp only [Rep] at h ⊢; exact h
  | .bl b, v, _, h => by simp only [Rep] at h ⊢; exact h
  | .int i, v, _, h => by simp only [Rep] at h ⊢; exact h
  | .str x, v, _, h => by simp only [Rep] at h ⊢; exact h
  | .tup ds, v, f, h => by
    simp only [Rep] at h ⊢
    obtain ⟨a, vs, e, q, r⟩ := h
    exact ⟨a, vs, e, SqT_flat q s, Reps.flat s ds vs (by simpa only [D.flat] using f) r⟩
  | .lst ds, v, f, _ => by simp [D.flat] at f
  | .ins c ds, v, f, _ => by simp [D.flat] at f
  | .scr ns, v, f, _ => by simp [D.flat] at f
theorem Reps.flat {g : Gc} {S S' : Hp} (s : SameT S S') : ∀ (ds : List D) (vs : List V), flats ds = true → Reps g S ds vs → Reps g S' ds vs
  | [], vs, _, h => by simp only [Reps] at h ⊢; exact h
  | d :: ds, vs, f, h => by
    simp only [Reps] at h ⊢
    simp only [flats, Bool.and_eq_true] at f
    obtain ⟨v, r, e, h1, h2⟩ := h
    exact ⟨v, r, e, Rep.flat s d v f.1 h1, Reps.flat s ds r f.2 h2⟩
end

/-! ### owned trees -/
inductive O where
  | sh (d : D) | lst (xs : List O) | tup (xs : List O) | ins (c : Nat) (xs : List O)
mutual
def O.d : O → D
  | .sh d => d
  | .lst os => .lst (ods os)
  | .tup os => .tup (ods os)
  | .ins c os => .ins c (ods os)
def ods : List O → List D
  | [] => []
  | o :: os => o.d :: ods os
end
mutual
/-- shared leaves by S, owned nodes by H, at the addresses f -/
def ORep (g : Gc) (S H : Hp) : O → V → List Addr → Prop
  | .sh d, v, f => f = [] ∧ Rep g S d v
  | .lst os, v, f => ∃ a vs f', v = .ref a ∧ H a = some (.lst vs) ∧ f = a :: f' ∧ OReps g S H os vs f'
  | .tup os, v, f => ∃ a vs, v = .ref a ∧ SqT g.K S a vs ∧ OReps g S H os vs f
  | .ins c os, v, f => ∃ a dx fs f', v = .ref a ∧ H a = some (.ins (g.cls c) dx fs) ∧ fs.map (·.1) = g.flds c ∧ f = a :: f' ∧ OReps g S H os (fs.map (·.2)) f'
def OReps (g : Gc) (S H : Hp) : List O → List V → List Addr → Prop
  | [], vs, f => vs = [] ∧ f = []
  | o :: os, vs, f => ∃ v r f1 f2, vs = v :: r ∧ f = f1 ++ f2 ∧ ORep g S H o v f1 ∧ OReps g S H os r f2
end
mutual
theorem ORep.mono {g : Gc} {S S' H H' : Hp} (s : Same S S') : ∀ (o : O) (v : V) (f : List Addr), (∀ a ∈ f, ∀ u, H a = some u → H' a = some u) → ORep g S H o v f → ORep g S' H' o v f
  | .sh d, v, f, k, h => by
    simp only [ORep] at h ⊢
    exact ⟨h.1, Rep.mono s d v h.2⟩
  | .lst os, v, f, k, h => by
    simp only [ORep] at h ⊢
    obtain ⟨a, vs, f', e, q, rfl, r⟩ := h
    exact ⟨a, vs, f', e, k a List.mem_cons_self _ q, rfl, OReps.mono s os vs f' (fun b hb => k b (List.mem_cons_of_mem _ hb)) r⟩
  | .tup os, v, f, k, h => by
    simp only [ORep] at h ⊢
    obtain ⟨a, vs, e, q, r⟩ := h
    exact ⟨a, vs, e, SqT_mono q s, OReps.mono s os vs f k r⟩
  | .ins c os, v, f, k, h => by
    simp only [ORep] at h ⊢
    obtain ⟨a, dx, fs, f', e, q, n, rfl, r⟩ := h
    exact ⟨a, dx, fs, f', e, k a List.mem_cons_self _ q, n, rfl, OReps.mono s os _ f' (fun b hb => k b (List.mem_cons_of_mem _ hb)) r⟩
theorem OReps.mono {g : Gc} {S S' H H' : Hp} (s : Same S S') : ∀ (os : List O) (vs : List V) (f : List Addr), (∀ a ∈ f, ∀ u, H a = some u → H' a = some u) → OReps g S H os vs f → OReps g S' H' os vs f
  | [], vs, f, k, h => by simp only [OReps] at h ⊢; exact h
  | o :: os, vs, f, k, h => by
    simp only [OReps] at h ⊢
    obtain ⟨v, r, f1, f2, e, rfl, h1, h2⟩ := h
    exact ⟨v, r, f1, f2, e, rfl, ORep.mono s o v f1 (fun b hb => k b (List.mem_append_left _ hb)) h1, OReps.mono s os r f2 (fun b hb => k b (List.mem_append_right _ hb)) h2⟩
end
mutual
/-- forget who owns: the owned nodes are seen in S' -/
theorem ORep.view {g : Gc} {S S' H : Hp} (s : Same S S') : ∀ (o : O) (v : V) (f : List Addr), (∀ a ∈ f, ∀ u, H a = some u → S' a = some u) → ORep g S H o v f → Rep g S' o.d v
  | .sh d, v, f, k, h => by
    simp only [ORep, O.d] at h ⊢
    exact Rep.mono s d v h.2
  | .lst os, v, f, k, h => by
    simp only [ORep, O.d, Rep] at h ⊢
    obtain ⟨a, vs, f', e, q, rfl, r⟩ := h
    exact ⟨a, vs, e, k a List.mem_cons_self _ q, OReps.view s os vs f' (fun b hb => k b (List.mem_cons_of_mem _ hb)) r⟩
  | .tup os, v, f, k, h => by
    simp only [ORep, O.d, Rep] at h ⊢
    obtain ⟨a, vs, e, q, r⟩ := h
    exact ⟨a, vs, e, SqT_mono q s, OReps.view s os vs f k r⟩
  | .ins c os, v, f, k, h => by
    simp only [ORep, O.d, Rep] at h ⊢
    obtain ⟨a, dx, fs, f', e, q, n, rfl, r⟩ := h
    exact ⟨a, dx, fs, e, k a List.mem_cons_self _ q, n, OReps.view s os _ f' (fun b hb => k b (List.mem_cons_of_mem _ hb)) r⟩
theorem OReps.view {g : Gc} {S S' H : Hp} (s : Same S S') : ∀ (os : List O) (vs : List V) (f : List Addr), (∀ a ∈ f, ∀ u, H a = some u → S' a = some u) → OReps g S H os vs f → Reps g S' (ods os) vs
  | [], vs, f, k, h => by
    simp only [OReps, ods, Reps] at h ⊢
    exact h.1
  | o :: os, vs, f, k, h => by
    simp only [OReps, ods, Reps] at h ⊢
    obtain ⟨v, r, f1, f2, e, rfl, h1, h2⟩ := h
    exact ⟨v, r, e, ORep.view s o v f1 (fun b hb => k b (List.mem_append_left _ hb)) h1, OReps.view s os r f2 (fun b hb => k b (List.mem_append_right _ hb)) h2⟩
end
end TL

namespace TL
open PySem PySem.Spec PyProof.Rows L2

open Classical in
noncomputable def hid (P : Addr → Prop) (H : Hp) : Hp := fun a => if P a then none else H a
theorem hid_some {P : Addr → Prop} {H : Hp} {a : Addr} {u : HO} : hid P H a = some u ↔ ¬ P a ∧ H a = some u := by
  unfold hid
  split
  · rename_i h
    exact Iff.intro (fun e => nomatch e) (fun e => absurd h e.1)
  · rename_i h
    exact Iff.intro (fun e => And.intro h e) (fun e => e.2)
theorem hid_sub {P : Addr → Prop} {H : Hp} : Same (hid P H) H := fun b u e => (hid_some.mp e).2
theorem hid_le {P Q : Addr → Prop} {H H' : Hp} (h : ∀ a u, ¬ P a → H a = some u → ¬ Q a ∧ H' a = some u) : Same (hid P H) (hid Q H') := fun b u e =>
  let ⟨e1, e2⟩ := hid_some.mp e
  hid_some.mpr (h b u e1 e2)
/-- lists and instances -/
def Soft (H : Hp) (a : Addr) : Prop := (∃ xs, H a = some (.lst xs)) ∨ ∃ C dx fs, H a = some (.ins C dx fs)
theorem Soft.some {H : Hp} {a : Addr} (s : Soft H a) : ∃ u, H a = some u := by
  rcases s with ⟨_, e⟩ | ⟨_, _, _, e⟩ <;> exact ⟨_, e⟩
theorem hid_leT {P Q : Addr → Prop} {H H' : Hp} (h : ∀ a u, ¬ P a → H a = some u → H' a = some u ∧ (Q a → Soft H a)) : SameT (hid P H) (hid Q H') := fun a => by
  refine ⟨fun xs e => ?_, fun o u e => ?_⟩
  · obtain ⟨e1, e2⟩ := hid_some.mp e
    obtain ⟨k1, k2⟩ := h a _ e1 e2
    refine hid_some.mpr ⟨fun q => ?_, k1⟩
    rcases k2 q with ⟨_, z⟩ | ⟨_, _, _, z⟩ <;> (rw [e2] at z; cases z)
  · obtain ⟨e1, e2⟩ := hid_some.mp e
    obtain ⟨k1, k2⟩ := h a _ e1 e2
    refine hid_some.mpr ⟨fun q => ?_, k1⟩
    rcases k2 q with ⟨_, z⟩ | ⟨_, _, _, z⟩ <;> (rw [e2] at z; cases z)
mutual
theorem ORep.soft {g : Gc} {S H : Hp} : ∀ (o : O) (v : V) (f : List Addr), ORep g S H o v f → ∀ a ∈ f, Soft H a
  | .sh d, v, f, h, a, ha => by
    simp only [ORep] at h
    rw [h.1] at ha; cases ha
  | .lst os, v, f, h, a, ha => by
    simp only [ORep] at h
    obtain ⟨b, vs, f', e, q, rfl, r⟩ := h
    rcases List.mem_cons.mp ha with rfl | ha
    · exact .inl ⟨_, q⟩
    · exact OReps.soft os vs f' r a ha
  | .tup os, v, f, h, a, ha => by
    simp only [ORep] at h
    obtain ⟨b, vs, e, q, r⟩ := h
    exact OReps.soft os vs f r a ha
  | .ins c os, v, f, h, a, ha => by
    simp only [ORep] at h
    obtain ⟨b, dx, fs, f', e, q, n, rfl, r⟩ := h
    rcases List.mem_cons.mp ha with rfl | ha
    · exact .inr ⟨_, _, _, q⟩
    · exact OReps.soft os _ f' r a ha
theorem OReps.soft {g : Gc} {S H : Hp} : ∀ (os : List O) (vs : List V) (f : List Addr), OReps g S H os vs f → ∀ a ∈ f, Soft H a
  | [], vs, f, h, a, ha => by
    simp only [OReps] at h
    rw [h.2] at ha; cases ha
  | o :: os, vs, f, h, a, ha => by
    simp only [OReps] at h
    obtain ⟨v, r, f1, f2, e, rfl, h1, h2⟩ := h
    rcases List.mem_append.mp ha with ha | ha
    · exact ORep.soft o v f1 h1 a ha
    · exact OReps.soft os r f2 h2 a ha
end

/-! ### the slots -/
abbrev En := List (Option O)
abbrev Sg := L2.St
def Slots (g : Gc) (S H : Hp) : En → Sg → List Addr → Prop
  | [], σ, f => σ = [] ∧ f = []
  | none :: ρ, σ, f => ∃ x σ', σ = x :: σ' ∧ Slots g S H ρ σ' f
  | some o :: ρ, σ, f => ∃ v σ' f1 f2, σ = some v :: σ' ∧ f = f1 ++ f2 ∧ ORep g S H o v f1 ∧ Slots g S H ρ σ' f2
section
variable {g : Gc} {S S' H H' : Hp}
theorem Slots.mono (s : Same S S') : ∀ (ρ : En) (σ : Sg) (f : List Addr), (∀ a ∈ f, ∀ u, H a = some u → H' a = some u) → Slots g S H ρ σ f → Slots g S' H' ρ σ f
  | [], σ, f, k, h => h
  | none :: ρ, σ, f, k, h => by
    obtain ⟨x, σ', e, h⟩ := h
    exact ⟨x, σ', e, Slots.mono s ρ σ' f k h⟩
  | some o :: ρ, σ, f, k, h => by
    obtain ⟨v, σ', f1, f2, e, rfl, h1, h2⟩ := h
    exact ⟨v, σ', f1, f2, e, rfl, h1.mono s _ _ _ (fun b hb => k b (List.mem_append_left _ hb)), Slots.mono s ρ σ' f2 (fun b hb => k b (List.mem_append_right _ hb)) h2⟩
theorem Slots.len : ∀ (ρ : En) (σ : Sg) (f : List Addr), Slots g S H ρ σ f → σ.length = ρ.length
  | [], σ, f, h => by rw [h.1] <;> rfl
  | none :: ρ, σ, f, h => by
    obtain ⟨x, σ', e, h⟩ := h
    rw [e, List.length_cons, List.length_cons, Slots.len ρ σ' f h]
  | some o :: ρ, σ, f, h => by
    obtain ⟨v, σ', f1, f2, e, rfl, h1, h2⟩ := h
    rw [e, List.length_cons, List.length_cons, Slots.len ρ σ' f2 h2]
theorem Slots.soft : ∀ (ρ : En) (σ : Sg) (f : List Addr), Slots g S H ρ σ f → ∀ a ∈ f, Soft H a
  | [], σ, f, h, a, ha => by rw [h.2] at ha; cases ha
  | none :: ρ, σ, f, h, a, ha => by
    obtain ⟨x, σ', e, h⟩ := h
    exact Slots.soft ρ σ' f h a ha
  | some o :: ρ, σ, f, h, a, ha => by
    obtain ⟨v, σ', f1, f2, e, rfl, h1, h2⟩ := h
    rcases List.mem_append.mp ha with ha | ha
    · exact ORep.soft o v f1 h1 a ha
    · exact Slots.soft ρ σ' f2 h2 a ha
theorem Slots.get : ∀ (ρ : En) (σ : Sg) (f : List Addr) {i : Nat} {o : O}, Slots g S H ρ σ f → ρ[i]? = some (some o) → ∃ v f', σ[i]? = some (some v) ∧ ORep g S H o v f' ∧ ∀ a ∈ f', a ∈ f
  | [], σ, f, i, o, h, e => by simp at e
  | none :: ρ, σ, f, 0, o, h, e => by simp at e
  | none :: ρ, σ, f, i + 1, o, h, e => by
    obtain ⟨x, σ', rfl, h⟩ := h
    have e' : ρ[i]? = some (some o) := by simpa using e
    obtain ⟨v, f', e1, e2, e3⟩ := Slots.get ρ σ' f h e'
    exact ⟨v, f', by simpa using e1, e2, e3⟩
  | some o' :: ρ, σ, f, 0, o, h, e => by
    obtain ⟨v, σ', f1, f2, rfl, rfl, h1, h2⟩ := h
    have e' : o' = o := by simpa using e
    subst e'
    exact ⟨v, f1, rfl, h1, fun a ha => List.mem_append_left _ ha⟩
  | some o' :: ρ, σ, f, i + 1, o, h, e => by
    obtain ⟨v, σ', f1, f2, rfl, rfl, h1, h2⟩ := h
    have e' : ρ[i]? = some (some o) := by simpa using e
    obtain ⟨v', f', e1, e2, e3⟩ := Slots.get ρ σ' f2 h2 e'
    exact ⟨v', f', by simpa using e1, e2, fun a ha => List.mem_append_right _ (e3 a ha)⟩
theorem nodup_sub {f1 f2 f3 : List Addr} (h : (f1 ++ (f2 ++ f3)).Nodup) : (f2 ++ (f1 ++ f3)).Nodup := by
  rw [List.nodup_append] at h ⊢
  obtain ⟨a, b, c⟩ := h
  rw [List.nodup_append] at b
  obtain ⟨b1, b2, b3⟩ := b
  refine ⟨b1, ?_, ?_⟩
  · rw [List.nodup_append]
    exact ⟨a, b2, fun x hx y hy => c x hx y (List.mem_append_right _ hy)⟩
  · intro x hx y hy
    rcases List.mem_append.mp hy with hy | hy
    · exact fun e => c y hy x (List.mem_append_left _ hx) e.symm
    · exact b3 x hx y hy
theorem nodup_right {f1 f2 f3 : List Addr} (h : (f1 ++ (f2 ++ f3)).Nodup) : (f1 ++ f3).Nodup := by
  rw [List.nodup_append] at h ⊢
  obtain ⟨a, b, c⟩ := h
  rw [List.nodup_append] at b
  exact ⟨a, b.2.1, fun x hx y hy => c x hx y (List.mem_append_right _ hy)⟩
/-- a slot is stored -/
theorem Slots.set {o : O} {v : V} {f0 : List Addr} (ho : ORep g S H o v f0) : ∀ (ρ : En) (σ : Sg) (f : List Addr) (i : Nat), Slots g S H ρ σ f → i < ρ.length →
    ∃ f', Slots g S H (ρ.set i (some o)) (σ.set i (some v)) f' ∧ (∀ a ∈ f', a ∈ f0 ∨ a ∈ f) ∧ ((f0 ++ f).Nodup → f'.Nodup)
  | [], σ, f, i, h, l => by simp at l
  | none :: ρ, σ, f, 0, h, l => by
    obtain ⟨x, σ', rfl, h⟩ := h
    exact ⟨f0 ++ f, ⟨v, σ', f0, f, rfl, rfl, ho, h⟩, fun a ha => List.mem_append.mp ha, fun n => n⟩
  | none :: ρ, σ, f, i + 1, h, l => by
    obtain ⟨x, σ', rfl, h⟩ := h
    obtain ⟨f', h', s, n⟩ := Slots.set ho ρ σ' f i h (by simpa using l)
    exact ⟨f', ⟨x, _, rfl, h'⟩, s, n⟩
  | some o' :: ρ, σ, f, 0, h, l => by
    obtain ⟨v', σ', f1, f2, rfl, rfl, h1, h2⟩ := h
    refine ⟨f0 ++ f2, ⟨v, σ', f0, f2, rfl, rfl, ho, h2⟩, fun a ha => ?_, fun n => nodup_right n⟩
    rcases List.mem_append.mp ha with ha | ha
    · exact .inl ha
    · exact .inr (List.mem_append_right _ ha)
  | some o' :: ρ, σ, f, i + 1, h, l => by
    obtain ⟨v', σ', f1, f2, rfl, rfl, h1, h2⟩ := h
    obtain ⟨f', h', s, n⟩ := Slots.set ho ρ σ' f2 i h2 (by simpa using l)
    refine ⟨f1 ++ f', ⟨v', _, f1, f', rfl, rfl, h1, h'⟩, fun a ha => ?_, fun nd => ?_⟩
    · rcases List.mem_append.mp ha with ha | ha
      · exact .inr (List.mem_append_left _ ha)
      · rcases s a ha with z | z
        · exact .inl z
        · exact .inr (List.mem_append_right _ z)
    · have nd' := nodup_sub nd
      rw [List.nodup_append] at nd' ⊢
      refine ⟨nd'.1, n nd'.2.1, fun x hx y hy => nd'.2.2 x hx y ?_⟩
      rcases s y hy with z | z
      · exact List.mem_append_left _ z
      · exact List.mem_append_right _ z
/-- a slot is given up: what it owned is handed on -/
theorem Slots.take : ∀ (ρ : En) (σ : Sg) (f : List Addr) (i : Nat) {o : O}, Slots g S H ρ σ f → ρ[i]? = some (some o) →
    ∃ v f0 f', σ[i]? = some (some v) ∧ ORep g S H o v f0 ∧ Slots g S H (ρ.set i none) σ f' ∧ (∀ a, a ∈ f ↔ a ∈ f0 ∨ a ∈ f') ∧ (f.Nodup → (f0 ++ f').Nodup)
  | [], σ, f, i, o, h, e => by simp at e
  | none :: ρ, σ, f, 0, o, h, e => by simp at e
  | none :: ρ, σ, f, i + 1, o, h, e => by
    obtain ⟨x, σ', rfl, h⟩ := h
    obtain ⟨v, f0, f', e1, e2, e3, e4, e5⟩ := Slots.take ρ σ' f i h (by simpa using e)
    exact ⟨v, f0, f', by simpa using e1, e2, ⟨x, σ', rfl, e3⟩, e4, e5⟩
  | some o' :: ρ, σ, f, 0, o, h, e => by
    obtain ⟨v, σ', f1, f2, rfl, rfl, h1, h2⟩ := h
    have e' : o' = o := by simpa using e
    subst e'
    exact ⟨v, f1, f2, rfl, h1, ⟨some v, σ', rfl, h2⟩, fun a => List.mem_append, fun n => n⟩
  | some o' :: ρ, σ, f, i + 1, o, h, e => by
    obtain ⟨v', σ', f1, f2, rfl, rfl, h1, h2⟩ := h
    obtain ⟨v, f0, f', e1, e2, e3, e4, e5⟩ := Slots.take ρ σ' f2 i h2 (by simpa using e)
    refine ⟨v, f0, f1 ++ f', by simpa using e1, e2, ⟨v', σ', f1, f', rfl, rfl, h1, e3⟩, fun a => ?_, fun n => ?_⟩
    · rw [List.mem_append, List.mem_append, e4]
      constructor
      · rintro (z | z | z)
        · exact .inr (.inl z)
        · exact .inl z
        · exact .inr (.inr z)
      · rintro (z | z | z)
        · exact .inr (.inl z)
        · exact .inl z
        · exact .inr (.inr z)
    · rw [List.nodup_append] at n
      obtain ⟨n1, n2, n3⟩ := n
      have n4 := e5 n2
      refine nodup_sub ?_
      rw [List.nodup_append]
      refine ⟨n1, n4, fun x hx y hy => n3 x hx y ((e4 y).mpr (List.mem_append.mp hy))⟩
theorem Slots.drop {i : Nat} (ρ : En) (σ : Sg) (f : List Addr) (h : Slots g S H ρ σ f) : ∃ f', Slots g S H (ρ.set i none) σ f' ∧ (∀ a ∈ f', a ∈ f) ∧ (f.Nodup → f'.Nodup) := by
  cases e : ρ[i]? with
  | none =>
    rw [List.set_eq_of_length_le (List.getElem?_eq_none_iff.mp e)]
    exact ⟨f, h, fun _ z => z, fun z => z⟩
  | some x =>
    cases x with
    | none =>
      have e2 : ρ.set i none = ρ := by
        apply List.ext_getElem?
        intro j
        rw [List.getElem?_set]
        split
        · rename_i hj
          subst hj
          rw [e]
          have := (List.getElem?_eq_some_iff.mp e).1
          simp [this]
        · rfl
      rw [e2]
      exact ⟨f, h, fun _ z => z, fun z => z⟩
    | some o =>
      obtain ⟨v, f0, f', e1, e2, e3, e4, e5⟩ := Slots.take ρ σ f i h e
      exact ⟨f', e3, fun a ha => (e4 a).mpr (.inr ha), fun n => (List.nodup_append.mp (e5 n)).2.1⟩
def unown (ρ : En) : En := ρ.map (Option.map fun o => .sh o.d)
theorem Slots.unown (s : Same S S') : ∀ (ρ : En) (σ : Sg) (f : List Addr), (∀ a ∈ f, ∀ u, H a = some u → S' a = some u) → Slots g S H ρ σ f → Slots g S' H' (unown ρ) σ []
  | [], σ, f, k, h => ⟨h.1, rfl⟩
  | none :: ρ, σ, f, k, h => by
    obtain ⟨x, σ', e, h⟩ := h
    exact ⟨x, σ', e, Slots.unown s ρ σ' f k h⟩
  | some o :: ρ, σ, f, k, h => by
    obtain ⟨v, σ', f1, f2, e, rfl, h1, h2⟩ := h
    refine ⟨v, σ', [], [], e, rfl, ?_, Slots.unown s ρ σ' f2 (fun b hb => k b (List.mem_append_right _ hb)) h2⟩
    simp only [ORep]
    exact ⟨trivial, h1.view s _ _ _ (fun b hb => k b (List.mem_append_left _ hb))⟩
/-- slots forgotten -/
theorem Slots.forget : ∀ (ρ : En) (σ : Sg) (f : List Addr) {σ' : Sg}, Slots g S H ρ σ f → σ'.length = σ.length → (∀ (i : Nat) (v : O), ρ[i]? = some (some v) → σ'[i]? = σ[i]?) → Slots g S H ρ σ' f
  | [], σ, f, σ', h, l, k => by
    obtain ⟨rfl, h2⟩ := h
    exact ⟨List.length_eq_zero_iff.mp l, h2⟩
  | none :: ρ, σ, f, σ', h, l, k => by
    obtain ⟨x, σ1, rfl, h⟩ := h
    cases σ' with
    | nil => simp at l
    | cons y σ2 => exact ⟨y, σ2, rfl, Slots.forget ρ σ1 f h (by simpa using l) fun i v e => by simpa using k (i + 1) v (by simpa using e)⟩
  | some o :: ρ, σ, f, σ', h, l, k => by
    obtain ⟨v, σ1, f1, f2, rfl, rfl, h1, h2⟩ := h
    cases σ' with
    | nil => simp at l
    | cons y σ2 =>
      have e0 := k 0 o rfl
      have ey : y = some v := by simpa using e0
      subst ey
      exact ⟨v, σ2, f1, f2, rfl, rfl, h1, Slots.forget ρ σ1 f2 h2 (by simpa using l) fun i v e => by simpa using k (i + 1) v (by simpa using e)⟩
end
end TL

namespace TL
open PySem PySem.Spec L2

/-! ### what an evaluation gives -/
inductive M (α : Type) where
  | stuck | ok (a : α) | rai (c : Nat) (p : Option Int)
def M.bnd {α β : Type} (m : M α) (k : α → M β) : M β := match m with
  | .stuck => .stuck
  | .ok a => k a
  | .rai c p => .rai c p
instance : Monad M where
  pure := .ok
  bind := M.bnd
@[simp] theorem M.bind_ok {α β : Type} (a : α) (k : α → M β) : (M.ok a >>= k) = k a := rfl
@[simp] theorem M.bind_stuck {α β : Type} (k : α → M β) : ((M.stuck : M α) >>= k) = .stuck := rfl
@[simp] theorem M.bind_rai {α β : Type} (c : Nat) (p : Option Int) (k : α → M β) : ((M.rai c p : M α) >>= k) = .rai c p := rfl
@[simp] theorem M.pure_eq {α : Type} (a : α) : (pure a : M α) = .ok a := rfl
def M.of {α : Type} : Option α → M α
  | some a => .ok a
  | none => .stuck
@[simp] theorem M.of_some {α : Type} (a : α) : M.of (some a) = .ok a := rfl
@[simp] theorem M.of_none {α : Type} : M.of (none : Option α) = .stuck := rfl

inductive R where
  | val (c : Bool) (d : D) | own (o : O) | bor (o : O)
def R.d : R → D
  | .val _ d => d
  | .own o => o.d
  | .bor o => o.d
def R.clean : R → Bool
  | .val c d => c || d.flat
  | .own _ => true
  | .bor o => o.d.flat
def RR (g : Gc) (S SF H : Hp) (F : List Addr) : R → V → List Addr → Prop
  | .val c d, v, f => f = [] ∧ Rep g (if c = true then S else SF) d v
  | .own o, v, f => ORep g S H o v f
  | .bor o, v, f => f = [] ∧ ∃ f', ORep g S H o v f' ∧ ∀ a ∈ f', a ∈ F
def RRs (g : Gc) (S SF H : Hp) (F : List Addr) : List R → List V → List Addr → Prop
  | [], vs, f => vs = [] ∧ f = []
  | r :: rs, vs, f => ∃ v w f1 f2, vs = v :: w ∧ f = f1 ++ f2 ∧ RR g S SF H F r v f1 ∧ RRs g S SF H F rs w f2
theorem RR.mono {g : Gc} {S S' SF SF' H H' : Hp} {F : List Addr} {r : R} {v : V} {f : List Addr} (s : Same S S') (sf : Same SF SF') (k : Same H H') (h : RR g S SF H F r v f) : RR g S' SF' H' F r v f := by
  cases r with
  | val c d =>
    obtain ⟨e, h⟩ := h
    refine ⟨e, ?_⟩
    cases c with
    | true => exact Rep.mono s d v h
    | false => exact Rep.mono sf d v h
  | own o => exact ORep.mono s o v f (fun a _ u e => k a u e) h
  | bor o =>
    obtain ⟨e, f', h, hs⟩ := h
    exact ⟨e, f', ORep.mono s o v f' (fun a _ u e => k a u e) h, hs⟩
theorem RRs.mono {g : Gc} {S S' SF SF' H H' : Hp} {F : List Addr} (s : Same S S') (sf : Same SF SF') (k : Same H H') : ∀ {rs : List R} {vs : List V} {f : List Addr}, RRs g S SF H F rs vs f → RRs g S' SF' H' F rs vs f
  | [], _, _, h => h
  | r :: rs, _, _, h => by
    obtain ⟨v, w, f1, f2, e, e2, h1, h2⟩ := h
    exact ⟨v, w, f1, f2, e, e2, h1.mono s sf k, RRs.mono s sf k h2⟩

structure StE (g : Gc) (Z : Addr → Prop) (F : List Addr) (ρ : En) (σ : Sg) (H : Hp) : Prop where
  nd : F.Nodup
  dj : ∀ a ∈ F, ¬ Z a
  zd : ∀ a, Z a → H a ≠ none
  sl : Slots g (hid (fun a => a ∈ F ∨ Z a) H) H ρ σ F
theorem hid_mono {P Q : Addr → Prop} {H H' : Hp} (s : Same H H') (h : ∀ a u, H a = some u → Q a → P a) : Same (hid P H) (hid Q H') :=
  hid_le fun a u n e => ⟨fun q => n (h a u e q), s a u e⟩
section
variable {g : Gc} {Z : Addr → Prop} {F : List Addr} {ρ : En} {σ : Sg} {H H' H1 H2 : Hp}
theorem StE.soft (st : StE g Z F ρ σ H) : ∀ a ∈ F, Soft H a := Slots.soft _ _ _ st.sl
theorem Soft.same {a : Addr} (s : Soft H a) (k : Same H H') : Soft H' a := by
  rcases s with ⟨xs, e⟩ | ⟨C, dx, fs, e⟩
  · exact .inl ⟨xs, k _ _ e⟩
  · exact .inr ⟨C, dx, fs, k _ _ e⟩
/-- the state lasts while the heap grows; new objects may be hidden -/
theorem StE.ext {f : List Addr} (st : StE g Z F ρ σ H) (s : Same H H') (fr : ∀ a ∈ f, H a = none) (al : ∀ a ∈ f, H' a ≠ none) : StE g (fun a => a ∈ f ∨ Z a) F ρ σ H' := by
  refine ⟨st.nd, fun a ha z => ?_, fun a z => ?_, ?_⟩
  · rcases z with z | z
    · obtain ⟨u, e⟩ := (st.soft a ha).some
      rw [fr a z] at e; cases e
    · exact st.dj a ha z
  · rcases z with z | z
    · exact al a z
    · intro e
      exact st.zd a z (s.free e)
  · refine Slots.mono (hid_mono s fun a u e q => ?_) ρ σ F (fun a _ u e => s a u e) st.sl
    rcases q with q | q | q
    · exact .inl q
    · rw [fr a q] at e; cases e
    · exact .inr q
theorem StE.ext0 (st : StE g Z F ρ σ H) (s : Same H H') : StE g Z F ρ σ H' := by
  refine ⟨st.nd, st.dj, fun a z e => st.zd a z (s.free e), ?_⟩
  exact Slots.mono (hid_mono s fun a u e q => q) ρ σ F (fun a _ u e => s a u e) st.sl
/-- what is to be known of a result -/
structure PR (g : Gc) (Z : Addr → Prop) (F : List Addr) (H : Hp) (r : R) (v : V) (H' : Hp) (f : List Addr) : Prop where
  same : Same H H'
  nd : f.Nodup
  fr : ∀ a ∈ f, H a = none
  rr : RR g (hid (fun a => a ∈ f ∨ a ∈ F ∨ Z a) H') (hid (fun a => a ∈ f ∨ Z a) H') H' F r v f
structure PRs (g : Gc) (Z : Addr → Prop) (F : List Addr) (H : Hp) (rs : List R) (vs : List V) (H' : Hp) (f : List Addr) : Prop where
  same : Same H H'
  nd : f.Nodup
  fr : ∀ a ∈ f, H a = none
  rr : RRs g (hid (fun a => a ∈ f ∨ a ∈ F ∨ Z a) H') (hid (fun a => a ∈ f ∨ Z a) H') H' F rs vs f
theorem RR.soft {S SF : Hp} {r : R} {v : V} {f : List Addr} (h : RR g S SF H F r v f) : ∀ a ∈ f, Soft H a := fun a ha => by
  cases r with
  | val c d => rw [h.1] at ha; cases ha
  | own o => exact ORep.soft o v f h a ha
  | bor o => rw [h.1] at ha; cases ha
theorem RRs.soft {S SF : Hp} : ∀ {rs : List R} {vs : List V} {f : List Addr}, RRs g S SF H F rs vs f → ∀ a ∈ f, Soft H a
  | [], vs, f, h, a, ha => by rw [h.2] at ha; cases ha
  | r :: rs, vs, f, h, a, ha => by
    obtain ⟨v, w, f1, f2, e, rfl, h1, h2⟩ := h
    rcases List.mem_append.mp ha with z | z
    · exact h1.soft a z
    · exact RRs.soft h2 a z
theorem PR.soft {r : R} {v : V} {f : List Addr} (p : PR g Z F H r v H' f) : ∀ a ∈ f, Soft H' a := p.rr.soft
theorem PR.al {r : R} {v : V} {f : List Addr} (p : PR g Z F H r v H' f) : ∀ a ∈ f, H' a ≠ none := fun a ha e => by
  obtain ⟨u, q⟩ := (p.soft a ha).some
  rw [e] at q; cases q
theorem PRs.al {rs : List R} {vs : List V} {f : List Addr} (p : PRs g Z F H rs vs H' f) : ∀ a ∈ f, H' a ≠ none := fun a ha e => by
  obtain ⟨u, q⟩ := (p.rr.soft a ha).some
  rw [e] at q; cases q
theorem nodup_fresh {f1 f2 : List Addr} (n1 : f1.Nodup) (n2 : f2.Nodup) (al : ∀ a ∈ f1, H a ≠ none) (fr : ∀ a ∈ f2, H a = none) : (f1 ++ f2).Nodup := by
  rw [List.nodup_append]
  exact ⟨n1, n2, fun x hx y hy e => al x hx (by rw [e]; exact fr y hy)⟩
/-- one result behind another -/
theorem PR.cons {r : R} {v : V} {f1 : List Addr} {rs : List R} {vs : List V} {f2 : List Addr} (p : PR g Z F H r v H1 f1) (q : PRs g (fun a => a ∈ f1 ∨ Z a) F H1 rs vs H2 f2) : PRs g Z F H (r :: rs) (v :: vs) H2 (f1 ++ f2) := by
  refine ⟨p.same.trans q.same, nodup_fresh p.nd q.nd p.al q.fr, fun a ha => ?_, ?_⟩
  · rcases List.mem_append.mp ha with z | z
    · exact p.fr a z
    · exact p.same.free (q.fr a z)
  · refine ⟨v, vs, f1, f2, rfl, rfl, ?_, ?_⟩
    · refine p.rr.mono (hid_mono q.same fun a u e z => ?_) (hid_mono q.same fun a u e z => ?_) q.same
      · rcases z with z | z
        · rcases List.mem_append.mp z with z | z
          · exact .inl z
          · rw [q.fr a z] at e; cases e
        · exact .inr z
      · rcases z with z | z
        · rcases List.mem_append.mp z with z | z
          · exact .inl z
          · rw [q.fr a z] at e; cases e
        · exact .inr z
    · refine q.rr.mono (hid_mono (Same.refl _) fun a u e z => ?_) (hid_mono (Same.refl _) fun a u e z => ?_) (Same.refl _)
      · rcases z with z | z | z
        · rcases List.mem_append.mp z with z | z
          · exact .inr (.inr (.inl z))
          · exact .inl z
        · exact .inr (.inl z)
        · exact .inr (.inr (.inr z))
      · rcases z with z | z
        · rcases List.mem_append.mp z with z | z
          · exact .inr (.inl z)
          · exact .inl z
        · exact .inr (.inr z)
theorem PRs.nil : PRs g Z F H [] [] H [] := ⟨Same.refl _, List.nodup_nil, fun _ z => (nomatch z), ⟨rfl, rfl⟩⟩

/-! ### reading results -/
def seen (c : Bool) (Z : Addr → Prop) (F : List Addr) : Addr → Prop := fun a => (c = true ∧ a ∈ F) ∨ Z a
theorem RR.read (st : StE g Z F ρ σ H) (s : Same H H') {r : R} {v : V} {f f0 : List Addr} (fr : ∀ a ∈ f0, H a = none) (h : RR g (hid (fun a => a ∈ f0 ∨ a ∈ F ∨ Z a) H') (hid (fun a => a ∈ f0 ∨ Z a) H') H' F r v f) (hf : ∀ a ∈ f, a ∈ f0) : Rep g (hid (seen r.clean Z F) H') r.d v := by
  have notF : ∀ a ∈ f0, a ∉ F := fun a ha hF => by
    obtain ⟨u, e⟩ := (st.soft a hF).some
    rw [fr a ha] at e; cases e
  have notZ : ∀ a ∈ f0, ¬ Z a := fun a ha hz => st.zd a hz (fr a ha)
  cases r with
  | val c d =>
    obtain ⟨_, h⟩ := h
    show Rep g _ d v
    cases c with
    | true =>
      refine Rep.mono (hid_mono (Same.refl _) fun a u e z => ?_) d v h
      rcases z with ⟨_, z⟩ | z
      · exact .inr (.inl z)
      · exact .inr (.inr z)
    | false =>
      have h : Rep g (hid (fun a => a ∈ f0 ∨ Z a) H') d v := h
      cases hd : d.flat with
      | true =>
        refine Rep.flat (hid_leT fun a u n e => ⟨e, fun z => ?_⟩) d v hd h
        rcases z with ⟨_, z⟩ | z
        · exact (st.soft a z).same s
        · exact absurd (.inr z) n
      | false =>
        refine Rep.mono (hid_mono (Same.refl _) fun a u e z => ?_) d v h
        rcases z with ⟨z, _⟩ | z
        · simp [R.clean, hd] at z
        · exact .inr z
  | own o =>
    refine ORep.view (hid_mono (Same.refl _) fun a u e z => ?_) o v f (fun a ha u e => hid_some.mpr (And.intro (fun z => ?_) e)) h
    · rcases z with ⟨_, z⟩ | z
      · exact .inr (.inl z)
      · exact .inr (.inr z)
    · rcases z with ⟨_, z⟩ | z
      · exact notF a (hf a ha) z
      · exact notZ a (hf a ha) z
  | bor o =>
    obtain ⟨_, f', h, hs⟩ := h
    have k : Rep g (hid Z H') o.d v := ORep.view (hid_mono (Same.refl _) fun a u e z => .inr (.inr z)) o v f' (fun a ha u e => hid_some.mpr (And.intro (fun z => st.dj a (hs a ha) z) e)) h
    cases hd : o.d.flat with
    | true =>
      refine Rep.flat (hid_leT fun a u n e => ⟨e, fun z => ?_⟩) o.d v hd k
      rcases z with ⟨_, z⟩ | z
      · exact (st.soft a z).same s
      · exact absurd z n
    | false =>
      refine Rep.mono (hid_mono (Same.refl _) fun a u e z => ?_) o.d v k
      rcases z with ⟨z, _⟩ | z
      · simp [R.clean, hd] at z
      · exact z
theorem PR.read (st : StE g Z F ρ σ H) {r : R} {v : V} {f : List Addr} (p : PR g Z F H r v H' f) : Rep g (hid (seen r.clean Z F) H') r.d v := p.rr.read st p.same p.fr fun _ z => z
def cleans : List R → Bool
  | [] => true
  | r :: rs => r.clean && cleans rs
def rds (rs : List R) : List D := rs.map R.d
theorem RRs.read (st : StE g Z F ρ σ H) (s : Same H H') {f0 : List Addr} (fr : ∀ a ∈ f0, H a = none) : ∀ {rs : List R} {vs : List V} {f : List Addr}, RRs g (hid (fun a => a ∈ f0 ∨ a ∈ F ∨ Z a) H') (hid (fun a => a ∈ f0 ∨ Z a) H') H' F rs vs f → (∀ a ∈ f, a ∈ f0) →
    Reps g (hid (seen (cleans rs) Z F) H') (rds rs) vs
  | [], _, _, h, _ => by
    show Reps g _ [] _
    simp only [Reps]
    exact h.1
  | r :: rs, _, _, h, hf => by
    obtain ⟨v, w, f1, f2, rfl, rfl, h1, h2⟩ := h
    show Reps g _ (r.d :: rds rs) _
    simp only [Reps]
    have k1 := RR.read st s fr h1 (fun a ha => hf a (List.mem_append_left _ ha))
    have k2 := RRs.read st s fr h2 (fun a ha => hf a (List.mem_append_right _ ha))
    refine ⟨v, w, rfl, Rep.mono (hid_mono (Same.refl _) fun a u e z => ?_) _ _ k1, Reps.mono (hid_mono (Same.refl _) fun a u e z => ?_) _ _ k2⟩
    · rcases z with ⟨z, y⟩ | z
      · simp only [cleans, Bool.and_eq_true] at z
        exact .inl ⟨z.1, y⟩
      · exact .inr z
    · rcases z with ⟨z, y⟩ | z
      · simp only [cleans, Bool.and_eq_true] at z
        exact .inl ⟨z.2, y⟩
      · exact .inr z
theorem PRs.read (st : StE g Z F ρ σ H) {rs : List R} {vs : List V} {f : List Addr} (p : PRs g Z F H rs vs H' f) : Reps g (hid (seen (cleans rs) Z F) H') (rds rs) vs := p.rr.read st p.same p.fr fun _ z => z

/-! ### making results -/
theorem PR.sc {x : D} {u : V} (s : Same H H') (h : ∀ S, Rep g S x u) : PR g Z F H (.val true x) u H' [] := ⟨s, List.nodup_nil, fun _ z => (nomatch z), rfl, h _⟩
def mkNew (c : Bool) (xs : List D) : R := if (c || flats xs) = true then .own (.lst (xs.map .sh)) else .val false (.lst xs)
theorem OReps.shs {S : Hp} : ∀ {xs : List D} {vs : List V}, Reps g S xs vs → OReps g S H (xs.map .sh) vs []
  | [], vs, h => by
    simp only [Reps] at h
    show OReps g S H [] vs []
    simp only [OReps]
    exact ⟨h, trivial⟩
  | x :: xs, vs, h => by
    simp only [Reps] at h
    obtain ⟨v, r, e, h1, h2⟩ := h
    show OReps g S H (.sh x :: xs.map .sh) vs []
    simp only [OReps, ORep]
    exact ⟨v, r, [], [], e, rfl, ⟨rfl, h1⟩, OReps.shs h2⟩
theorem upd_le {q : Addr} {o : HO} (hq : H q = none) : Same H (upd H q o) := fun b u e => by rw [upd_ne (ne_of_none e hq)]; exact e
theorem PR.new {c : Bool} {xs : List D} {vs : List V} {q : Addr} (st : StE g Z F ρ σ H) (s : Same H H') (h : Reps g (hid (seen c Z F) H') xs vs) (hq : H' q = none) : ∃ f, PR g Z F H (mkNew c xs) (.ref q) (upd H' q (.lst vs)) f := by
  have hq0 : H q = none := s.free hq
  have s2 : Same H (upd H' q (.lst vs)) := s.trans (upd_le hq)
  have nF : q ∉ F := fun z => by
    obtain ⟨u, e⟩ := (st.soft q z).some
    rw [hq0] at e; cases e
  have nZ : ¬ Z q := fun z => st.zd q z hq0
  by_cases hc : (c || flats xs) = true
  · refine ⟨[q], s2, by simp, fun a ha => by rw [List.mem_singleton.mp ha]; exact hq0, ?_⟩
    unfold mkNew
    rw [if_pos hc]
    show ORep g _ _ _ _ _
    simp only [ORep]
    refine ⟨q, vs, [], rfl, upd_same, rfl, OReps.shs ?_⟩
    have main : Reps g (hid (fun a => a ∈ F ∨ Z a) H') xs vs := by
      cases c with
      | true =>
        refine Reps.mono (hid_mono (Same.refl _) fun a u e z => ?_) _ _ h
        rcases z with z | z
        · exact .inl ⟨rfl, z⟩
        · exact .inr z
      | false =>
        refine Reps.flat (hid_leT fun a u n e => ⟨e, fun z => ?_⟩) _ _ (by simpa using hc) h
        rcases z with z | z
        · exact (st.soft a z).same s
        · exact absurd (.inr z) n
    refine Reps.mono (hid_mono (upd_le hq) fun a u e z => ?_) _ _ main
    rcases z with z | z | z
    · rw [List.mem_singleton.mp z, hq] at e; cases e
    · exact .inl z
    · exact .inr z
  · have hc' : c = false := by
      cases c with
      | true => exact absurd rfl hc
      | false => rfl
    refine ⟨[], s2, List.nodup_nil, fun _ z => (nomatch z), ?_⟩
    unfold mkNew
    rw [if_neg hc]
    refine ⟨rfl, ?_⟩
    show Rep g (hid _ _) (.lst xs) _
    simp only [Rep]
    refine ⟨q, vs, rfl, hid_some.mpr (And.intro (fun z => ?_) upd_same), Reps.mono (hid_mono (upd_le hq) fun a u e z => ?_) _ _ h⟩
    · rcases z with z | z
      · cases z
      · exact nZ z
    · rcases z with z | z
      · cases z
      · exact .inr z

/-! ### the judgement -/
/-- an exception of the class c: its payload -/
def ExcOk (g : Gc) (H H' : Hp) (p : Option Int) (d : Option Addr) : Prop := match p with
  | none => d = none
  | some i => ∃ dd, d = some dd ∧ H dd = none ∧ H' dd = some (.xd [("at", .int i)])
/-- classes of exceptions stand in the same table -/
def SndE (g : Gc) (t : TE) (W : WX) (ρ : En) : M R → Prop
  | .stuck => True
  | .ok r => ∀ σ H Z F Q, StE g Z F ρ σ H → (∀ v H' f, PR g Z F H r v H' f → Q v H') → t σ H Q
  | .rai c p => ∀ σ H Z F Q, StE g Z F ρ σ H → (∀ d H', Same H H' → ExcOk g H H' p d → W (.ref (g.cls c)) d σ H') → t σ H Q
def SndA (g : Gc) (t : TA) (W : WX) (ρ : En) : M (List R) → Prop
  | .stuck => True
  | .ok r => ∀ σ H Z F Q, StE g Z F ρ σ H → (∀ v H' f, PRs g Z F H r v H' f → Q v H') → t σ H Q
  | .rai c p => ∀ σ H Z F Q, StE g Z F ρ σ H → (∀ d H', Same H H' → ExcOk g H H' p d → W (.ref (g.cls c)) d σ H') → t σ H Q
def SndT (g : Gc) (t : TT) (W : WX) (ρ : En) : M Bool → Prop
  | .stuck => True
  | .ok b => ∀ σ H Z F Q, StE g Z F ρ σ H → (∀ H', Same H H' → Q b H') → t σ H Q
  | .rai c p => ∀ σ H Z F Q, StE g Z F ρ σ H → (∀ d H', Same H H' → ExcOk g H H' p d → W (.ref (g.cls c)) d σ H') → t σ H Q
theorem ExcOk.pre {p : Option Int} {d : Option Addr} (s : Same H H1) (h : ExcOk g H1 H2 p d) : ExcOk g H H2 p d := by
  cases p with
  | none => exact h
  | some i =>
    obtain ⟨dd, e, h1, h2⟩ := h
    exact ⟨dd, e, s.free h1, h2⟩
variable {W : WX}
/-! ### arguments -/
theorem snd_nil : SndA g tNil W ρ (.ok []) := fun σ H Z F Q st h => h [] H [] PRs.nil
theorem snd_cons {te : TE} {ta : TA} {m : M R} {n : M (List R)} (h1 : SndE g te W ρ m) (h2 : SndA g ta W ρ n) : SndA g (tCons te ta) W ρ (m >>= fun r => n >>= fun rs => .ok (r :: rs)) := by
  cases m with
  | stuck => exact trivial
  | rai c p => exact fun σ H Z F Q st h => h1 σ H Z F _ st h
  | ok r =>
    cases n with
    | stuck => exact trivial
    | rai c p =>
      exact fun σ H Z F Q st h => h1 σ H Z F _ st fun v H1 f1 p1 => h2 σ H1 _ F _ (st.ext p1.same p1.fr p1.al) fun d H' s x => h d H' (p1.same.trans s) (x.pre p1.same)
    | ok rs =>
      exact fun σ H Z F Q st h => h1 σ H Z F _ st fun v H1 f1 p1 => h2 σ H1 _ F _ (st.ext p1.same p1.fr p1.al) fun vs H2 f2 p2 => h _ _ _ (p1.cons p2)

/-! ### primitives -/
inductive PV where
  | sc (x : D) | new (xs : List D)
def PVPost (g : Gc) (S H : Hp) : PV → VK → Prop
  | .sc x, Q => ∀ u, (∀ S', Rep g S' x u) → Q u H
  | .new xs, Q => ∀ vs, Reps g S xs vs → ∀ q, H q = none → Q (.ref q) (upd H q (.lst vs))
def mkPV (c : Bool) : PV → R
  | .sc x => .val true x
  | .new xs => mkNew c xs
theorem PVPost.of {c : Bool} {pv : PV} {Q : VK} (st : StE g Z F ρ σ H) (s : Same H H') (h : ∀ v H'' f, PR g Z F H (mkPV c pv) v H'' f → Q v H'') : PVPost g (hid (seen c Z F) H') H' pv Q := by
  cases pv with
  | sc x => exact fun u hu => h u H' [] (.sc s hu)
  | new xs =>
    intro vs hv q hq
    obtain ⟨f, p⟩ := PR.new st s hv hq
    exact h _ _ f p
def PnOk (g : Gc) (r : List V → Hp → VK → Prop) (p : List D → Option PV) : Prop := ∀ ds pv, p ds = some pv → ∀ S H vs Q, Same S H → Reps g S ds vs → PVPost g S H pv Q → r vs H Q
def P2Ok (g : Gc) (r : R2) (p : D → D → Option PV) : Prop := ∀ d e pv, p d e = some pv → ∀ S H v w Q, Same S H → Rep g S d v → Rep g S e w → PVPost g S H pv Q → r v w H Q
def P1Ok (g : Gc) (r : V → Hp → VK → Prop) (p : D → Option PV) : Prop := ∀ d pv, p d = some pv → ∀ S H v Q, Same S H → Rep g S d v → PVPost g S H pv Q → r v H Q
def primN (p : List D → Option PV) (m : M (List R)) : M R := m >>= fun rs => match p (rds rs) with
  | some pv => .ok (mkPV (cleans rs) pv)
  | none => .stuck
def prim1 (p : D → Option PV) (m : M R) : M R := m >>= fun r => match p r.d with
  | some pv => .ok (mkPV r.clean pv)
  | none => .stuck
def prim2 (p : D → D → Option PV) (m n : M R) : M R := m >>= fun r => n >>= fun q => match p r.d q.d with
  | some pv => .ok (mkPV (r.clean && q.clean) pv)
  | none => .stuck
theorem snd_primN {r : List V → Hp → VK → Prop} {p : List D → Option PV} (hp : PnOk g r p) {ta : TA} {m : M (List R)} (h1 : SndA g ta W ρ m) : SndE g (tCB r ta) W ρ (primN p m) := by
  cases m with
  | stuck => exact trivial
  | rai c p => exact fun σ H Z F Q st h => h1 σ H Z F _ st h
  | ok rs =>
    unfold primN
    rw [M.bind_ok]
    cases e : p (rds rs) with
    | none => exact trivial
    | some pv => exact fun σ H Z F Q st h => h1 σ H Z F _ st fun vs H1 f p1 => hp _ _ e _ _ _ _ hid_sub (p1.read st) (PVPost.of st p1.same h)
theorem snd_prim1 {r : V → Hp → VK → Prop} {p : D → Option PV} (hp : P1Ok g r p) {ta : TE} {m : M R} (h1 : SndE g ta W ρ m) : SndE g (tUn r ta) W ρ (prim1 p m) := by
  cases m with
  | stuck => exact trivial
  | rai c p => exact fun σ H Z F Q st h => h1 σ H Z F _ st h
  | ok rs =>
    unfold prim1
    rw [M.bind_ok]
    cases e : p rs.d with
    | none => exact trivial
    | some pv => exact fun σ H Z F Q st h => h1 σ H Z F _ st fun vs H1 f p1 => hp _ _ e _ _ _ _ hid_sub (p1.read st) (PVPost.of st p1.same h)
/-- two operands -/
theorem PR.read2 (st : StE g Z F ρ σ H) {r q : R} {v w : V} {f1 f2 : List Addr} (p1 : PR g Z F H r v H1 f1) (p2 : PR g (fun a => a ∈ f1 ∨ Z a) F H1 q w H2 f2) :
    Rep g (hid (seen (r.clean && q.clean) Z F) H2) r.d v ∧ Rep g (hid (seen (r.clean && q.clean) Z F) H2) q.d w := by
  refine ⟨Rep.mono (hid_mono p2.same fun a u e z => ?_) _ _ (p1.read st), Rep.mono (hid_mono (Same.refl _) fun a u e z => ?_) _ _ (p2.read (st.ext p1.same p1.fr p1.al))⟩
  · rcases z with ⟨z, y⟩ | z
    · exact .inl ⟨(Bool.and_eq_true_iff.mp z).1, y⟩
    · exact .inr z
  · rcases z with ⟨z, y⟩ | z
    · exact .inl ⟨(Bool.and_eq_true_iff.mp z).2, y⟩
    · exact .inr (.inr z)
theorem snd_prim2 {r : R2} {p : D → D → Option PV} (hp : P2Ok g r p) {ta tb : TE} {m n : M R} (h1 : SndE g ta W ρ m) (h2 : SndE g tb W ρ n) : SndE g (tOp r ta tb) W ρ (prim2 p m n) := by
  cases m with
  | stuck => exact trivial
  | rai c p => exact fun σ H Z F Q st h => h1 σ H Z F _ st h
  | ok ra =>
    cases n with
    | stuck => exact trivial
    | rai c p =>
      exact fun σ H Z F Q st h => h1 σ H Z F _ st fun v H1 f1 p1 => h2 σ H1 _ F _ (st.ext p1.same p1.fr p1.al) fun d H' s x => h d H' (p1.same.trans s) (x.pre p1.same)
    | ok rb =>
      unfold prim2
      rw [M.bind_ok, M.bind_ok]
      cases e : p ra.d rb.d with
      | none => exact trivial
      | some pv =>
        exact fun σ H Z F Q st h => h1 σ H Z F _ st fun v H1 f1 p1 => h2 σ H1 _ F _ (st.ext p1.same p1.fr p1.al) fun w H2 f2 p2 =>
          hp _ _ _ e _ _ _ _ _ hid_sub (p1.read2 st p2).1 (p1.read2 st p2).2 (PVPost.of st (p1.same.trans p2.same) h)
end
end TL

namespace TL
open PySem PySem.Spec L2

/-! ### data for == -/
mutual
def D.p : D → Option PyData
  | .non => some .none
  | .bl b => some (.bool b)
  | .int i => some (.int i)
  | .str x => some (.str x)
  | .tup ds => (dps ds).map .tuple
  | .lst ds => (dps ds).map .list
  | .ins _ _ => none
  | .scr _ => none
def dps : List D → Option (List PyData)
  | [] => some []
  | d :: ds => match d.p, dps ds with
    | some a, some as => some (a :: as)
    | _, _ => none
end
mutual
theorem Rep.dp {g : Gc} {H : Hp} : ∀ (d : D) (v : V) (p : PyData), d.p = some p → Rep g H d v → Dp g.K H v p
  | .non, v, p, e, h => by
    simp only [D.p, Option.some.injEq] at e
    simp only [Rep] at h
    subst e; subst h; exact .non
  | .bl b, v, p, e, h => by
    simp only [D.p, Option.some.injEq] at e
    simp only [Rep] at h
    subst e; subst h; exact .bl b
  | .int b, v, p, e, h => by
    simp only [D.p, Option.some.injEq] at e
    simp only [Rep] at h
    subst e; subst h; exact .int b
  | .str b, v, p, e, h => by
    simp only [D.p, Option.some.injEq] at e
    simp only [Rep] at h
    subst e; subst h; exact .str b
  | .tup ds, v, p, e, h => by
    simp only [D.p, Option.map_eq_some_iff] at e
    obtain ⟨ps, e1, rfl⟩ := e
    simp only [Rep] at h
    obtain ⟨a, vs, rfl, q, r⟩ := h
    exact .tup q (Reps.dp ds vs ps e1 r)
  | .lst ds, v, p, e, h => by
    simp only [D.p, Option.map_eq_some_iff] at e
    obtain ⟨ps, e1, rfl⟩ := e
    simp only [Rep] at h
    obtain ⟨a, vs, rfl, q, r⟩ := h
    exact .lst (SqL.of q) (Reps.dp ds vs ps e1 r)
  | .ins _ _, v, p, e, h => by simp [D.p] at e
  | .scr _, v, p, e, h => by simp [D.p] at e
theorem Reps.dp {g : Gc} {H : Hp} : ∀ (ds : List D) (vs : List V) (ps : List PyData), dps ds = some ps → Reps g H ds vs → DpAll g.K H vs ps
  | [], vs, ps, e, h => by
    simp only [dps, Option.some.injEq] at e
    simp only [Reps] at h
    subst e; subst h; exact .nil
  | d :: ds, vs, ps, e, h => by
    simp only [dps] at e
    simp only [Reps] at h
    obtain ⟨v, r, rfl, h1, h2⟩ := h
    cases e1 : d.p with
    | none => rw [e1] at e; cases e
    | some a =>
      cases e2 : dps ds with
      | none => rw [e1, e2] at e; cases e
      | some as =>
        rw [e1, e2] at e
        cases e
        exact .cons (Rep.dp d v a e1 h1) (Reps.dp ds r as e2 h2)
end
def scD : D → D → Bool
  | .non, .non => true
  | .bl _, .bl _ => true
  | .int _, .int _ => true
  | .str _, .str _ => true
  | _, _ => false
def eqSc : D → D → Bool
  | .non, .non => true
  | .bl a, .bl b => decide (a = b)
  | .int a, .int b => decide (a = b)
  | .str a, .str b => decide (a = b)
  | _, _ => false
/-- == -/
def eqD (d e : D) : Option Bool := if scD d e = true then some (eqSc d e) else match d.p, e.p with
  | some a, some b => if (SeqAt.shaped a && SeqAt.shaped b) = true then some (PyData.eqv a b) else none
  | _, _ => none
def pEq (d e : D) : Option PV := (eqD d e).map fun b => .sc (.bl b)
def pNe (d e : D) : Option PV := (eqD d e).map fun b => .sc (.bl (!b))
variable {g : Gc}
theorem pv_bl {S H : Hp} {b : Bool} {Q : VK} (h : PVPost g S H (.sc (.bl b)) Q) : Q (.bl b) H := h _ fun S' => by simp only [Rep]
theorem pv_int {S H : Hp} {b : Int} {Q : VK} (h : PVPost g S H (.sc (.int b)) Q) : Q (.int b) H := h _ fun S' => by simp only [Rep]
theorem pv_str {S H : Hp} {b : Str} {Q : VK} (h : PVPost g S H (.sc (.str b)) Q) : Q (.str b) H := h _ fun S' => by simp only [Rep]
theorem pv_non {S H : Hp} {Q : VK} (h : PVPost g S H (.sc .non) Q) : Q .non H := h _ fun S' => by simp only [Rep]
theorem eq_ok : P2Ok g (fun x y H Q => rEq x y H Q ∨ rEqD g.K x y H Q) pEq := by
  intro d e pv h S H v w Q s rd re k
  unfold pEq at h
  obtain ⟨b, h1, rfl⟩ := Option.map_eq_some_iff.mp h
  unfold eqD at h1
  split at h1
  · rename_i hs
    refine .inl ?_
    cases h1
    cases d <;> cases e <;> simp only [scD, Bool.false_eq_true] at hs <;> simp only [Rep] at rd re <;> subst rd <;> subst re <;> refine ⟨rfl, ?_⟩ <;> simp only [eqSc] at k
    · exact pv_bl k
    · have := pv_bl k; simpa using this
    · have := pv_bl k; simpa using this
    · have := pv_bl k; simpa using this
  · refine .inr ?_
    cases e1 : d.p with
    | none => rw [e1] at h1; simp at h1
    | some a =>
      cases e2 : e.p with
      | none => rw [e1, e2] at h1; simp at h1
      | some c =>
        rw [e1, e2] at h1
        simp only at h1
        split at h1
        · rename_i hs
          cases h1
          rw [Bool.and_eq_true] at hs
          exact ⟨a, c, Rep.dp d v a e1 (Rep.mono s _ _ rd), Rep.dp e w c e2 (Rep.mono s _ _ re), hs.1, hs.2, pv_bl k⟩
        · cases h1
theorem ne_ok : P2Ok g (fun x y H Q => rNe x y H Q ∨ rNeD g.K x y H Q) pNe := by
  intro d e pv h S H v w Q s rd re k
  unfold pNe at h
  obtain ⟨b, h1, rfl⟩ := Option.map_eq_some_iff.mp h
  unfold eqD at h1
  split at h1
  · rename_i hs
    refine .inl ?_
    cases h1
    cases d <;> cases e <;> simp only [scD, Bool.false_eq_true] at hs <;> simp only [Rep] at rd re <;> subst rd <;> subst re <;> refine ⟨rfl, ?_⟩ <;> simp only [eqSc] at k
    · exact pv_bl k
    · have := pv_bl k; simpa using this
    · have := pv_bl k; simpa using this
    · have := pv_bl k; simpa using this
  · refine .inr ?_
    cases e1 : d.p with
    | none => rw [e1] at h1; simp at h1
    | some a =>
      cases e2 : e.p with
      | none => rw [e1, e2] at h1; simp at h1
      | some c =>
        rw [e1, e2] at h1
        simp only at h1
        split at h1
        · rename_i hs
          cases h1
          rw [Bool.and_eq_true] at hs
          exact ⟨a, c, Rep.dp d v a e1 (Rep.mono s _ _ rd), Rep.dp e w c e2 (Rep.mono s _ _ re), hs.1, hs.2, pv_bl k⟩
        · cases h1

/-! ### arithmetic -/
def mulOk (i j : Int) : Bool := decide (i.natAbs < 2 ^ 64) || decide (j.natAbs < 2 ^ 64) || decide (i.natAbs.log2 + j.natAbs.log2 < 1000000)
def divOk (_ j : Int) : Bool := decide (0 < j) && decide (j.natAbs.log2 < 9000)
def powOk (i j : Int) : Bool := decide (0 ≤ j) && decide (j ≤ 1000000) && decide (i.natAbs < 2 ^ 64)
def pBin : Operator → D → D → Option PV
  | .Add, .int i, .int j => some (.sc (.int (i + j)))
  | .Add, .str i, .str j => if i.length + j.length ≤ sizeLine then some (.sc (.str (i ++ j))) else none
  | .Add, .lst i, .lst j => if i.length + j.length ≤ sizeLine then some (.new (i ++ j)) else none
  | .Sub, .int i, .int j => some (.sc (.int (i - j)))
  | .Mult, .int i, .int j => if mulOk i j = true then some (.sc (.int (i * j))) else none
  | .FloorDiv, .int i, .int j => if divOk i j = true then some (.sc (.int (i / j))) else none
  | .Mod, .int i, .int j => if 0 < j then some (.sc (.int (i % j))) else none
  | .Pow, .int i, .int j => if powOk i j = true then some (.sc (.int (i ^ j.toNat))) else none
  | _, _, _ => none
def rBin : Operator → R2
  | .Add => fun x y H Q => (rI0 (fun i j => .int (i + j))) x y H Q ∨ (∃ i j, x = .str i ∧ y = .str j ∧ i.length + j.length ≤ sizeLine ∧ Q (.str (i ++ j)) H) ∨ rCat x y H Q
  | .Sub => rI0 fun i j => .int (i - j)
  | .Mult => fun x y H Q => (rI CMul fun i j => .int (i * j)) x y H Q ∨ (rI CMulW fun i j => .int (i * j)) x y H Q
  | .FloorDiv => rI CDivW fun i j => .int (i / j)
  | .Mod => rI (fun _ j => 0 < j) fun i j => .int (i % j)
  | .Pow => rI CPow fun i j => .int (i ^ j.toNat)
  | _ => fun _ _ _ _ => False
theorem bin_rule {X : Cx} : ∀ op : Operator, OpR X (binaryOp op) (rBin op)
  | .Add => op_add.or (op_add_str.or op_cat)
  | .Sub => op_sub
  | .Mult => op_mul.or op_mulW
  | .FloorDiv => op_fdivW
  | .Mod => op_mod
  | .Pow => op_pow
  | .MatMult => fun _ _ _ _ _ _ _ _ _ _ _ _ h => h.elim
  | .Div => fun _ _ _ _ _ _ _ _ _ _ _ _ h => h.elim
  | .LShift => fun _ _ _ _ _ _ _ _ _ _ _ _ h => h.elim
  | .RShift => fun _ _ _ _ _ _ _ _ _ _ _ _ h => h.elim
  | .BitOr => fun _ _ _ _ _ _ _ _ _ _ _ _ h => h.elim
  | .BitXor => fun _ _ _ _ _ _ _ _ _ _ _ _ h => h.elim
  | .BitAnd => fun _ _ _ _ _ _ _ _ _ _ _ _ h => h.elim
theorem Reps.len {S : Hp} : ∀ {ds : List D} {vs : List V}, Reps g S ds vs → vs.length = ds.length
  | [], vs, h => by
    simp only [Reps] at h
    rw [h]
    all_goals rfl
  | d :: ds, vs, h => by
    simp only [Reps] at h
    obtain ⟨v, r, rfl, _, h2⟩ := h
    rw [List.length_cons, List.length_cons, Reps.len h2]
theorem Reps.app {S : Hp} : ∀ {ds es : List D} {vs ws : List V}, Reps g S ds vs → Reps g S es ws → Reps g S (ds ++ es) (vs ++ ws)
  | [], es, vs, ws, h, k => by
    simp only [Reps] at h
    subst h
    exact k
  | d :: ds, es, vs, ws, h, k => by
    simp only [Reps] at h
    obtain ⟨v, r, rfl, h1, h2⟩ := h
    show Reps g S (d :: (ds ++ es)) (v :: (r ++ ws))
    simp only [Reps]
    exact ⟨v, _, rfl, h1, Reps.app h2 k⟩
theorem bin_ok (op : Operator) : P2Ok g (rBin op) (pBin op) := by
  intro d e pv h S H v w Q s rd re k
  cases op <;> cases d <;> cases e <;> simp only [pBin, reduceCtorEq] at h <;> simp only [Rep] at rd re
  · subst rd; subst re; cases h
    exact .inl ⟨_, _, rfl, rfl, pv_int k⟩
  · subst rd; subst re
    split at h
    · rename_i hz
      cases h
      exact .inr (.inl ⟨_, _, rfl, rfl, hz, pv_str k⟩)
    · cases h
  · obtain ⟨a, vs, rfl, q1, r1⟩ := rd
    obtain ⟨b, ws, rfl, q2, r2⟩ := re
    split at h
    · rename_i hz
      cases h
      refine .inr (.inr ⟨a, b, vs, ws, rfl, rfl, s _ _ q1, s _ _ q2, by rw [Reps.len r1, Reps.len r2]; exact hz, fun p hp => k _ (Reps.app r1 r2) p hp⟩)
    · cases h
  · subst rd; subst re; cases h
    exact ⟨_, _, rfl, rfl, pv_int k⟩
  · subst rd; subst re
    split at h
    · rename_i hz
      cases h
      unfold mulOk at hz
      rw [Bool.or_eq_true, Bool.or_eq_true] at hz
      rcases hz with (hz | hz) | hz
      · have := of_decide_eq_true hz
        exact .inl ⟨_, _, rfl, rfl, .inl (by omega), pv_int k⟩
      · have := of_decide_eq_true hz
        exact .inl ⟨_, _, rfl, rfl, .inr (by omega), pv_int k⟩
      · have hz' := of_decide_eq_true hz
        exact .inr ⟨_, _, rfl, rfl, hz', pv_int k⟩
    · cases h
  · subst rd; subst re
    split at h
    · rename_i hz
      cases h
      exact ⟨_, _, rfl, rfl, hz, pv_int k⟩
    · cases h
  · subst rd; subst re
    split at h
    · rename_i hz
      cases h
      unfold powOk at hz
      rw [Bool.and_eq_true, Bool.and_eq_true] at hz
      exact ⟨_, _, rfl, rfl, ⟨of_decide_eq_true hz.1.1, of_decide_eq_true hz.1.2, of_decide_eq_true hz.2⟩, pv_int k⟩
    · cases h
  · subst rd; subst re
    split at h
    · rename_i hz
      cases h
      unfold divOk at hz
      rw [Bool.and_eq_true] at hz
      exact ⟨_, _, rfl, rfl, ⟨of_decide_eq_true hz.1, of_decide_eq_true hz.2⟩, pv_int k⟩
    · cases h

/-! ### comparisons -/
def pLt : D → D → Option PV
  | .int i, .int j => some (.sc (.bl (decide (i < j))))
  | _, _ => none
def pLe : D → D → Option PV
  | .int i, .int j => some (.sc (.bl (decide (i ≤ j))))
  | _, _ => none
def pGt : D → D → Option PV
  | .int i, .int j => some (.sc (.bl (decide (j < i))))
  | _, _ => none
def pGe : D → D → Option PV
  | .int i, .int j => some (.sc (.bl (decide (j ≤ i))))
  | _, _ => none
/-- is: None and bools on the right -/
def isD : D → D → Option Bool
  | .non, .non => some true
  | .bl a, .bl b => some (decide (a = b))
  | .non, .bl _ => some false
  | .bl _, .non => some false
  | _, .non => some false
  | _, _ => none
def pIs (d e : D) : Option PV := (isD d e).map fun b => .sc (.bl b)
def pIsN (d e : D) : Option PV := (isD d e).map fun b => .sc (.bl (!b))
def rIs (n : Bool) : R2 := fun x y H Q => (y = .non ∧ Q (.bl (if n then !decide (x = .non) else decide (x = .non))) H) ∨ (∃ a b : Bool, x = .bl a ∧ y = .bl b ∧ Q (.bl (if n then !decide (a = b) else decide (a = b))) H) ∨ (∃ b : Bool, x = .non ∧ y = .bl b ∧ Q (.bl n) H)
theorem is_rule {X : Cx} : OpR X (compareOp .Is) (rIs false) := by
  intro pins s σ H x y v u Q I rx ry h
  rcases h with ⟨rfl, q⟩ | ⟨a, b, rfl, rfl, q⟩ | ⟨b, rfl, rfl, q⟩
  · exact op_isN pins s σ H x _ v u Q I rx ry ⟨rfl, by simpa using q⟩
  · exact op_isBl pins s σ H _ _ v u Q I rx ry ⟨a, b, rfl, rfl, by simpa using q⟩
  · cases (show v = Value.none from rx)
    cases (show u = Value.bool b from ry)
    exact wpAny_is_other rfl (fun z => nomatch z) ⟨.bl false, H, I, rfl, q⟩
theorem isnot_rule {X : Cx} : OpR X (compareOp .IsNot) (rIs true) := by
  intro pins s σ H x y v u Q I rx ry h
  rcases h with ⟨rfl, q⟩ | ⟨a, b, rfl, rfl, q⟩ | ⟨b, rfl, rfl, q⟩
  · exact op_notN pins s σ H x _ v u Q I rx ry ⟨rfl, by simpa using q⟩
  · exact op_notBl pins s σ H _ _ v u Q I rx ry ⟨a, b, rfl, rfl, by simpa using q⟩
  · cases (show v = Value.none from rx)
    cases (show u = Value.bool b from ry)
    exact wpAny_isNot_other rfl (fun z => nomatch z) ⟨.bl true, H, I, rfl, q⟩
def eqSs (x : D) : List D → Option Bool
  | [] => some false
  | y :: ys => match eqD y x, eqSs x ys with
    | some a, some b => some (a || b)
    | _, _ => none
def flatSc : D → Bool
  | .non => true | .bl _ => true | .int _ => true | .str _ => true | _ => false
def eqF : D → D → Bool
  | .non, .non => true
  | .bl a, .bl b => a == b
  | .bl a, .int b => (if a then 1 else 0) == b
  | .int a, .bl b => a == (if b then 1 else 0)
  | .int a, .int b => a == b
  | .str a, .str b => a == b
  | _, _ => false
/-- in: a list or a tuple of plain things, a list of data, a sign in a text -/
def inD (d : D) : D → Option Bool
  | .tup es => if (flatSc d && es.all flatSc) = true then some (es.any fun e => eqF e d) else none
  | .lst es => if (flatSc d && es.all flatSc) = true then some (es.any fun e => eqF e d) else match d.p, dps es with
    | some a, some as => if (SeqAt.shaped a && SeqAt.shaped (.list as)) = true then some (as.any fun z => PyData.eqv z a) else none
    | _, _ => none
  | .str z => match d with
    | .str x => match x.cps.toList with
      | [c] => some (decide (c ∈ z.cps.toList))
      | _ => none
    | _ => none
  | _ => none
def pIn (d e : D) : Option PV := (inD d e).map fun b => .sc (.bl b)
def pNotIn (d e : D) : Option PV := (inD d e).map fun b => .sc (.bl (!b))
def bn (n : Bool) (b : Bool) : Bool := if n then !b else b
def rInA (K : PySem.W.Frag) (n : Bool) : R2 := fun x y H Q => rIn K n x y H Q ∨ (∃ d ds, Dp K H x d ∧ Dp K H y (.list ds) ∧ SeqAt.shaped d = true ∧ SeqAt.shaped (.list ds) = true ∧ Q (.bl (bn n (ds.any fun z => PyData.eqv z d))) H) ∨
  (∃ (c : Nat) (z : Str), x = .str ⟨#[c]⟩ ∧ y = .str z ∧ Q (.bl (bn n (decide (c ∈ z.cps.toList)))) H)
theorem in_rule {X : Cx} (hu : X.A.units + 65 < cLine) : OpR X (compareOp .In) (rInA X.K false) := by
  intro pins s σ H x y v u Q I rx ry h
  rcases h with h | ⟨d, ds, h1, h2, h3, h4, q⟩ | ⟨c, z, rfl, rfl, q⟩
  · exact op_in_seq pins s σ H x y v u Q I rx ry h
  · exact op_inD hu pins s σ H x y v u Q I rx ry ⟨d, ds, h1, h2, h3, h4, q⟩
  · exact op_in_sign pins s σ H _ _ v u Q I rx ry ⟨c, z, rfl, rfl, q⟩
theorem notin_rule {X : Cx} (hu : X.A.units + 65 < cLine) : OpR X (compareOp .NotIn) (rInA X.K true) := by
  intro pins s σ H x y v u Q I rx ry h
  rcases h with h | ⟨d, ds, h1, h2, h3, h4, q⟩ | ⟨c, z, rfl, rfl, q⟩
  · exact op_notIn_seq pins s σ H x y v u Q I rx ry h
  · exact op_notInD hu pins s σ H x y v u Q I rx ry ⟨d, ds, h1, h2, h3, h4, q⟩
  · exact op_notIn_sign pins s σ H _ _ v u Q I rx ry ⟨c, z, rfl, rfl, q⟩
theorem flatSc_v {S : Hp} {d : D} {v : V} (f : flatSc d = true) (h : Rep g S d v) : flatV v = true := by
  cases d <;> simp only [flatSc, Bool.false_eq_true] at f <;> simp only [Rep] at h <;> subst h <;> rfl
theorem eqF_v {S : Hp} {d e : D} {v w : V} (f : flatSc d = true) (k : flatSc e = true) (h : Rep g S d v) (q : Rep g S e w) : eqV v w = eqF d e := by
  cases d <;> simp only [flatSc, Bool.false_eq_true] at f <;> simp only [Rep] at h <;> subst h <;> cases e <;> simp only [flatSc, Bool.false_eq_true] at k <;> simp only [Rep] at q <;> subst q <;> rfl
theorem flats_v {S : Hp} {d : D} {v : V} (f : flatSc d = true) (h : Rep g S d v) : ∀ {es : List D} {vs : List V}, es.all flatSc = true → Reps g S es vs → vs.all flatV = true ∧ inV v vs = es.any fun e => eqF e d
  | [], vs, _, r => by
    simp only [Reps] at r
    subst r
    exact ⟨rfl, rfl⟩
  | e :: es, vs, k, r => by
    simp only [Reps] at r
    obtain ⟨w, ws, rfl, r1, r2⟩ := r
    rw [List.all_cons, Bool.and_eq_true] at k
    obtain ⟨q1, q2⟩ := flats_v f h k.2 r2
    refine ⟨by rw [List.all_cons, flatSc_v k.1 r1, q1] <;> rfl, ?_⟩
    show (eqV w v || inV v ws) = _
    rw [List.any_cons, q2, eqF_v k.1 f r1 h]
theorem in_ok (n : Bool) : P2Ok g (rInA g.K n) (fun d e => (inD d e).map fun b => .sc (.bl (bn n b))) := by
  intro d e pv h S H v w Q s rd re k
  obtain ⟨b, h1, rfl⟩ := Option.map_eq_some_iff.mp h
  have k := pv_bl k
  cases e with
  | tup es =>
    simp only [inD] at h1
    split at h1
    · rename_i hf
      cases h1
      rw [Bool.and_eq_true] at hf
      simp only [Rep] at re
      obtain ⟨a, ws, rfl, q, r⟩ := re
      obtain ⟨z1, z2⟩ := flats_v hf.1 rd hf.2 r
      refine .inl ⟨a, ws, rfl, .inr (SqT_mono q s), flatSc_v hf.1 rd, z1, ?_⟩
      rw [z2]
      cases n <;> exact k
    · cases h1
  | lst es =>
    simp only [inD] at h1
    split at h1
    · rename_i hf
      cases h1
      rw [Bool.and_eq_true] at hf
      simp only [Rep] at re
      obtain ⟨a, ws, rfl, q, r⟩ := re
      obtain ⟨z1, z2⟩ := flats_v hf.1 rd hf.2 r
      refine .inl ⟨a, ws, rfl, .inl (SqL.of (s _ _ q)), flatSc_v hf.1 rd, z1, ?_⟩
      rw [z2]
      cases n <;> exact k
    · cases e1 : d.p with
      | none => rw [e1] at h1; simp at h1
      | some p =>
        cases e2 : dps es with
        | none => rw [e1, e2] at h1; simp at h1
        | some ps =>
          rw [e1, e2] at h1
          simp only at h1
          split at h1
          · rename_i hs
            cases h1
            rw [Bool.and_eq_true] at hs
            exact .inr (.inl ⟨p, ps, Rep.dp d v p e1 (Rep.mono s _ _ rd), Rep.dp (.lst es) w (.list ps) (by simp [D.p, e2]) (Rep.mono s _ _ re), hs.1, hs.2, k⟩)
          · cases h1
  | str z =>
    simp only [inD] at h1
    cases d with
    | str x =>
      simp only at h1
      split at h1
      · rename_i c hc
        cases h1
        simp only [Rep] at rd re
        subst rd; subst re
        refine .inr (.inr ⟨c, z, ?_, rfl, k⟩)
        have : x = ⟨#[c]⟩ := by
          obtain ⟨cs⟩ := x
          obtain ⟨l⟩ := cs
          have : l = [c] := hc
          rw [this]
        rw [this]
      · cases h1
    | _ => simp at h1
  | _ => simp [inD] at h1
def pCmp : CmpOp → D → D → Option PV
  | .Eq => pEq
  | .NotEq => pNe
  | .Lt => pLt
  | .LtE => pLe
  | .Gt => pGt
  | .GtE => pGe
  | .Is => pIs
  | .IsNot => pIsN
  | .In => pIn
  | .NotIn => pNotIn
def rCmp (K : PySem.W.Frag) : CmpOp → R2
  | .Eq => fun x y H Q => rEq x y H Q ∨ rEqD K x y H Q
  | .NotEq => fun x y H Q => rNe x y H Q ∨ rNeD K x y H Q
  | .Lt => rI0 fun i j => .bl (decide (i < j))
  | .LtE => rI0 fun i j => .bl (decide (i ≤ j))
  | .Gt => rI0 fun i j => .bl (decide (j < i))
  | .GtE => rI0 fun i j => .bl (decide (j ≤ i))
  | .Is => rIs false
  | .IsNot => rIs true
  | .In => rInA K false
  | .NotIn => rInA K true
theorem cmp_rule {X : Cx} (hu : X.A.units + 65 < cLine) : ∀ op : CmpOp, OpR X (compareOp op) (rCmp X.K op)
  | .Eq => op_eq.or (op_eqD (by omega))
  | .NotEq => op_ne.or (op_neD (by omega))
  | .Lt => op_lt
  | .LtE => op_le
  | .Gt => op_gt
  | .GtE => op_ge
  | .Is => is_rule
  | .IsNot => isnot_rule
  | .In => in_rule hu
  | .NotIn => notin_rule hu
theorem is_ok (n : Bool) : P2Ok g (rIs n) (fun d e => (isD d e).map fun b => .sc (.bl (if n then !b else b))) := by
  intro d e pv h S H v w Q s rd re k
  obtain ⟨b, h1, rfl⟩ := Option.map_eq_some_iff.mp h
  have k := pv_bl k
  cases e with
  | non =>
    simp only [Rep] at re
    subst re
    refine .inl ⟨rfl, ?_⟩
    have : decide (v = V.non) = b := by
      cases d with
      | non => simp only [Rep] at rd; subst rd; simp [isD] at h1; simp [h1]
      | bl _ => simp only [Rep] at rd; subst rd; simp [isD] at h1; simp [h1]
      | int _ => simp only [Rep] at rd; subst rd; simp [isD] at h1; simp [h1]
      | str _ => simp only [Rep] at rd; subst rd; simp [isD] at h1; simp [h1]
      | tup _ => simp only [Rep] at rd; obtain ⟨a, vs, rfl, _⟩ := rd; simp [isD] at h1; simp [h1]
      | lst _ => simp only [Rep] at rd; obtain ⟨a, vs, rfl, _⟩ := rd; simp [isD] at h1; simp [h1]
      | ins _ _ => simp only [Rep] at rd; obtain ⟨a, dx, fs, rfl, _⟩ := rd; simp [isD] at h1; simp [h1]
      | scr _ => simp only [Rep] at rd; obtain ⟨a, rfl, _⟩ := rd; simp [isD] at h1; simp [h1]
    rw [this]
    exact k
  | bl c =>
    simp only [Rep] at re
    subst re
    cases d with
    | non =>
      simp only [Rep] at rd
      subst rd
      simp only [isD, Option.some.injEq] at h1
      subst h1
      refine .inr (.inr ⟨c, rfl, rfl, ?_⟩)
      cases n <;> exact k
    | bl a =>
      simp only [Rep] at rd
      subst rd
      simp only [isD, Option.some.injEq] at h1
      subst h1
      exact .inr (.inl ⟨a, c, rfl, rfl, k⟩)
    | _ => simp [isD] at h1
  | _ => cases d <;> simp [isD] at h1
theorem cmp_ok (op : CmpOp) : P2Ok g (rCmp g.K op) (pCmp op) := by
  cases op with
  | Eq => exact eq_ok
  | NotEq => exact ne_ok
  | Is =>
    have h := is_ok (g := g) false
    simp only [Bool.false_eq_true, if_false] at h
    exact h
  | IsNot =>
    have h := is_ok (g := g) true
    simp only [if_true] at h
    exact h
  | In => exact in_ok false
  | NotIn => exact in_ok true
  | _ =>
    intro d e pv h S H v w Q s rd re k
    cases d <;> cases e <;> simp only [pCmp, pLt, pLe, pGt, pGe, reduceCtorEq] at h <;> simp only [Rep] at rd re
    subst rd; subst re; cases h
    exact ⟨_, _, rfl, rfl, pv_bl k⟩
theorem neg_ok : P1Ok g (rU fun i => .int (-i)) (fun d => match d with | .int i => some (.sc (.int (-i))) | _ => none) := by
  intro d pv h S H v Q s rd k
  cases d <;> simp only [reduceCtorEq] at h
  simp only [Rep] at rd
  subst rd; cases h
  exact ⟨_, rfl, pv_int k⟩
end TL

namespace TL
open PySem PySem.Spec L2
variable {g : Gc}

/-! ### lists of results as data -/
theorem Reps.get {S : Hp} : ∀ {ds : List D} {vs : List V} {j : Nat} {d : D}, Reps g S ds vs → ds[j]? = some d → ∃ v, vs[j]? = some v ∧ Rep g S d v
  | [], vs, j, d, h, e => by simp at e
  | x :: ds, vs, 0, d, h, e => by
    simp only [Reps] at h
    obtain ⟨v, r, rfl, h1, _⟩ := h
    have e' : x = d := by simpa using e
    subst e'
    exact ⟨v, rfl, h1⟩
  | x :: ds, vs, j + 1, d, h, e => by
    simp only [Reps] at h
    obtain ⟨v, r, rfl, _, h2⟩ := h
    obtain ⟨w, e1, e2⟩ := Reps.get h2 (show ds[j]? = some d by simpa using e)
    exact ⟨w, by simpa using e1, e2⟩
theorem Reps.take {S : Hp} : ∀ {ds : List D} {vs : List V} (n : Nat), Reps g S ds vs → Reps g S (ds.take n) (vs.take n)
  | _, _, 0, _ => by
    show Reps g S [] []
    simp only [Reps]
  | [], vs, n + 1, h => by
    simp only [Reps] at h
    subst h
    show Reps g S [] []
    simp only [Reps]
  | d :: ds, vs, n + 1, h => by
    simp only [Reps] at h
    obtain ⟨v, r, rfl, h1, h2⟩ := h
    show Reps g S (d :: ds.take n) (v :: r.take n)
    simp only [Reps]
    exact ⟨v, _, rfl, h1, Reps.take n h2⟩
theorem Reps.drop {S : Hp} : ∀ {ds : List D} {vs : List V} (n : Nat), Reps g S ds vs → Reps g S (ds.drop n) (vs.drop n)
  | _, _, 0, h => h
  | [], vs, n + 1, h => by
    simp only [Reps] at h
    subst h
    show Reps g S [] []
    simp only [Reps]
  | d :: ds, vs, n + 1, h => by
    simp only [Reps] at h
    obtain ⟨v, r, rfl, h1, h2⟩ := h
    exact Reps.drop n h2
theorem OReps.get {S H : Hp} : ∀ {os : List O} {vs : List V} {f : List Addr} {j : Nat} {o : O}, OReps g S H os vs f → os[j]? = some o → ∃ v f', vs[j]? = some v ∧ ORep g S H o v f' ∧ ∀ a ∈ f', a ∈ f
  | [], vs, f, j, o, h, e => by simp at e
  | x :: os, vs, f, 0, o, h, e => by
    simp only [OReps] at h
    obtain ⟨v, r, f1, f2, rfl, rfl, h1, _⟩ := h
    have e' : x = o := by simpa using e
    subst e'
    exact ⟨v, f1, rfl, h1, fun a ha => List.mem_append_left _ ha⟩
  | x :: os, vs, f, j + 1, o, h, e => by
    simp only [OReps] at h
    obtain ⟨v, r, f1, f2, rfl, rfl, _, h2⟩ := h
    obtain ⟨w, f', e1, e2, e3⟩ := OReps.get h2 (show os[j]? = some o by simpa using e)
    exact ⟨w, f', by simpa using e1, e2, fun a ha => List.mem_append_right _ (e3 a ha)⟩
theorem Reps.scr {S : Hp} : ∀ {ns : List Int}, Reps g S (ns.map .int) (ns.map V.int)
  | [] => by
    show Reps g S [] []
    simp only [Reps]
  | n :: ns => by
    show Reps g S (.int n :: ns.map .int) (.int n :: ns.map V.int)
    simp only [Reps, Rep]
    exact ⟨_, _, rfl, rfl, Reps.scr⟩

/-! ### built-ins -/
inductive Blt where
  | len | abs | max | min | int | str | list | gcd
def intsOf : List D → Option (List Int)
  | [] => some []
  | .int i :: ds => (intsOf ds).map (i :: ·)
  | _ :: _ => none
theorem intsOf_rep {S : Hp} : ∀ {ds : List D} {vs : List V} {ns : List Int}, intsOf ds = some ns → Reps g S ds vs → vs = ns.map V.int
  | [], vs, ns, e, h => by
    simp only [intsOf, Option.some.injEq] at e
    simp only [Reps] at h
    subst e; subst h; rfl
  | d :: ds, vs, ns, e, h => by
    cases d <;> simp only [intsOf, reduceCtorEq] at e
    rename_i i
    obtain ⟨ms, e1, rfl⟩ := Option.map_eq_some_iff.mp e
    simp only [Reps, Rep] at h
    obtain ⟨v, r, rfl, rfl, h2⟩ := h
    rw [intsOf_rep e1 h2]
    rfl
def maxI : List Int → Int
  | [] => 0
  | i :: ns => ns.foldl (fun a b => if b > a then b else a) i
def minI : List Int → Int
  | [] => 0
  | i :: ns => ns.foldl (fun a b => if b < a then b else a) i
theorem maxI_fold : ∀ (ns : List Int) (i : Int), i ≤ ns.foldl (fun a b => if b > a then b else a) i ∧ (∀ y ∈ ns, y ≤ ns.foldl (fun a b => if b > a then b else a) i) ∧ (ns.foldl (fun a b => if b > a then b else a) i = i ∨ ns.foldl (fun a b => if b > a then b else a) i ∈ ns)
  | [], i => ⟨Int.le_refl _, fun _ h => (nomatch h), .inl rfl⟩
  | n :: ns, i => by
    obtain ⟨h1, h2, h3⟩ := maxI_fold ns (if n > i then n else i)
    simp only [List.foldl_cons]
    have k1 : i ≤ if n > i then n else i := by split <;> omega
    have k2 : n ≤ if n > i then n else i := by split <;> omega
    refine ⟨Int.le_trans k1 h1, fun y hy => ?_, ?_⟩
    · rcases List.mem_cons.mp hy with rfl | hy
      · exact Int.le_trans k2 h1
      · exact h2 y hy
    · rcases h3 with h3 | h3
      · rw [h3]
        split
        · exact .inr List.mem_cons_self
        · exact .inl rfl
      · exact .inr (List.mem_cons_of_mem _ h3)
theorem minI_fold : ∀ (ns : List Int) (i : Int), ns.foldl (fun a b => if b < a then b else a) i ≤ i ∧ (∀ y ∈ ns, ns.foldl (fun a b => if b < a then b else a) i ≤ y) ∧ (ns.foldl (fun a b => if b < a then b else a) i = i ∨ ns.foldl (fun a b => if b < a then b else a) i ∈ ns)
  | [], i => ⟨Int.le_refl _, fun _ h => (nomatch h), .inl rfl⟩
  | n :: ns, i => by
    obtain ⟨h1, h2, h3⟩ := minI_fold ns (if n < i then n else i)
    simp only [List.foldl_cons]
    have k1 : (if n < i then n else i) ≤ i := by split <;> omega
    have k2 : (if n < i then n else i) ≤ n := by split <;> omega
    refine ⟨Int.le_trans h1 k1, fun y hy => ?_, ?_⟩
    · rcases List.mem_cons.mp hy with rfl | hy
      · exact Int.le_trans h1 k2
      · exact h2 y hy
    · rcases h3 with h3 | h3
      · rw [h3]
        split
        · exact .inr List.mem_cons_self
        · exact .inl rfl
      · exact .inr (List.mem_cons_of_mem _ h3)
theorem maxI_mem {i : Int} {ns : List Int} : maxI (i :: ns) ∈ i :: ns ∧ ∀ y ∈ i :: ns, y ≤ maxI (i :: ns) := by
  obtain ⟨h1, h2, h3⟩ := maxI_fold ns i
  refine ⟨?_, fun y hy => ?_⟩
  · rcases h3 with h | h
    · show List.foldl _ _ _ ∈ _
      rw [h]
      exact List.mem_cons_self
    · exact List.mem_cons_of_mem _ h
  · rcases List.mem_cons.mp hy with rfl | hy
    · exact h1
    · exact h2 y hy
theorem minI_mem {i : Int} {ns : List Int} : minI (i :: ns) ∈ i :: ns ∧ ∀ y ∈ i :: ns, minI (i :: ns) ≤ y := by
  obtain ⟨h1, h2, h3⟩ := minI_fold ns i
  refine ⟨?_, fun y hy => ?_⟩
  · rcases h3 with h | h
    · show List.foldl _ _ _ ∈ _
      rw [h]
      exact List.mem_cons_self
    · exact List.mem_cons_of_mem _ h
  · rcases List.mem_cons.mp hy with rfl | hy
    · exact h1
    · exact h2 y hy
def pBlt : Blt → List D → Option PV
  | .len, [.str z] => if z.length ≤ sizeLine then some (.sc (.int z.length)) else none
  | .len, [.lst ds] => some (.sc (.int ds.length))
  | .len, [.tup ds] => some (.sc (.int ds.length))
  | .len, [.scr ns] => some (.sc (.int ns.length))
  | .abs, [.int i] => some (.sc (.int (if i < 0 then -i else i)))
  | .max, [.int i, .int j] => some (.sc (.int (if j > i then j else i)))
  | .max, [.lst ds] => match intsOf ds with
    | some (i :: ns) => some (.sc (.int (maxI (i :: ns))))
    | _ => none
  | .min, [.int i, .int j] => some (.sc (.int (if j < i then j else i)))
  | .min, [.lst ds] => match intsOf ds with
    | some (i :: ns) => some (.sc (.int (minI (i :: ns))))
    | _ => none
  | .int, [.int i] => some (.sc (.int i))
  | .int, [.bl b] => some (.sc (.int (if b then 1 else 0)))
  | .int, [.str z] => match PySem.intText? z with
    | some n => if z.length ≤ 640 then some (.sc (.int n)) else none
    | none => none
  | .str, [.int i] => if i.natAbs.log2 < 1920 then some (.sc (.str (toString i))) else none
  | .list, [.lst ds] => some (.new ds)
  | .list, [.tup ds] => some (.new ds)
  | .list, [.scr ns] => some (.new (ns.map .int))
  | .gcd, [.int i, .int j] => some (.sc (.int ((Nat.gcd i.natAbs j.natAbs : Nat) : Int)))
  | _, _ => none
def Blt.val : Blt → Value
  | .len => .builtin "len" | .abs => .builtin "abs" | .max => .builtin "max" | .min => .builtin "min"
  | .int => .type "int" | .str => .type "str" | .list => .type "list" | .gcd => .builtin "math.gcd"
def rBlt (K : PySem.W.Frag) : Blt → List V → Hp → VK → Prop
  | .len => fun xs H Q => ∃ x n, xs = [x] ∧ LenV K x H n ∧ Q (.int n) H
  | .abs => fun xs H Q => ∃ i, xs = [.int i] ∧ Q (.int (if i < 0 then -i else i)) H
  | .max => fun xs H Q => (∃ i j, xs = [.int i, .int j] ∧ Q (.int (if j > i then j else i)) H) ∨ rMax K xs H Q
  | .min => fun xs H Q => (∃ i j, xs = [.int i, .int j] ∧ Q (.int (if j < i then j else i)) H) ∨ rMin K xs H Q
  | .int => fun xs H Q => ((∃ i, xs = [.int i] ∧ Q (.int i) H) ∨ ∃ k, xs = [.bl k] ∧ Q (.int (if k then 1 else 0)) H) ∨ ∃ a n, xs = [.str a] ∧ PySem.intText? a = some n ∧ a.length ≤ 640 ∧ Q (.int n) H
  | .str => fun xs H Q => ∃ i, xs = [.int i] ∧ i.natAbs.log2 < 1920 ∧ Q (.str (toString i)) H
  | .list => fun xs H Q => ∃ p ys, xs = [.ref p] ∧ (SqL K H p ys ∨ SqT K H p ys) ∧ ∀ l, H l = none → Q (.ref l) (upd H l (.lst ys))
  | .gcd => rGcd
theorem blt_rule {X : Cx} (hc : X.calm = true) : ∀ b : Blt, CallR X b.val (rBlt X.K b)
  | .len => call_len
  | .abs => call_abs
  | .max => (call_max2 hc).or (cr_max hc)
  | .min => (call_min2 hc).or (cr_min hc)
  | .int => call_int1.or call_int_str
  | .str => call_str_int
  | .list => call_list_of
  | .gcd => cr_gcd
theorem reps1 {S : Hp} {d : D} {vs : List V} (h : Reps g S [d] vs) : ∃ v, vs = [v] ∧ Rep g S d v := by
  simp only [Reps] at h
  obtain ⟨v, r, rfl, h1, rfl⟩ := h
  exact ⟨v, rfl, h1⟩
theorem reps2 {S : Hp} {d e : D} {vs : List V} (h : Reps g S [d, e] vs) : ∃ v w, vs = [v, w] ∧ Rep g S d v ∧ Rep g S e w := by
  simp only [Reps] at h
  obtain ⟨v, r, rfl, h1, w, r2, rfl, h2, rfl⟩ := h
  exact ⟨v, w, rfl, h1, h2⟩
theorem blt_ok (b : Blt) : PnOk g (rBlt g.K b) (pBlt b) := by
  intro ds pv h S H vs Q s r k
  unfold pBlt at h
  split at h
  · obtain ⟨v, rfl, r1⟩ := reps1 r
    simp only [Rep] at r1
    subst r1
    split at h
    · rename_i hz
      cases h
      exact ⟨_, _, rfl, ⟨hz, rfl⟩, pv_int k⟩
    · cases h
  · cases h
    obtain ⟨v, rfl, r1⟩ := reps1 r
    simp only [Rep] at r1
    obtain ⟨a, ws, rfl, q, r2⟩ := r1
    exact ⟨_, _, rfl, .inl ⟨_, SqL.of (s _ _ q), (Reps.len r2).symm⟩, pv_int k⟩
  · cases h
    obtain ⟨v, rfl, r1⟩ := reps1 r
    simp only [Rep] at r1
    obtain ⟨a, ws, rfl, q, r2⟩ := r1
    exact ⟨_, _, rfl, .inr ⟨_, SqT_mono q s, (Reps.len r2).symm⟩, pv_int k⟩
  · cases h
    obtain ⟨v, rfl, r1⟩ := reps1 r
    simp only [Rep] at r1
    obtain ⟨a, rfl, q⟩ := r1
    exact ⟨_, _, rfl, .inl ⟨_, SqL_mono q s, by rw [List.length_map]⟩, pv_int k⟩
  · cases h
    obtain ⟨v, rfl, r1⟩ := reps1 r
    simp only [Rep] at r1
    subst r1
    exact ⟨_, rfl, pv_int k⟩
  · cases h
    obtain ⟨v, w, rfl, r1, r2⟩ := reps2 r
    simp only [Rep] at r1 r2
    subst r1; subst r2
    exact .inl ⟨_, _, rfl, pv_int k⟩
  · obtain ⟨v, rfl, r1⟩ := reps1 r
    simp only [Rep] at r1
    obtain ⟨a, ws, rfl, q, r2⟩ := r1
    split at h
    · rename_i i ns e
      cases h
      have e2 := intsOf_rep e r2
      subst e2
      refine .inr ⟨a, _, rfl, SqL.of (s _ _ q), by simp, fun m hm hl => ?_⟩
      have := pv_int k
      obtain ⟨z1, z2⟩ := maxI_mem (i := i) (ns := ns)
      have e3 : m = maxI (i :: ns) := Int.le_antisymm (z2 m hm) (hl _ z1)
      rw [e3]
      exact this
    · cases h
  · cases h
    obtain ⟨v, w, rfl, r1, r2⟩ := reps2 r
    simp only [Rep] at r1 r2
    subst r1; subst r2
    exact .inl ⟨_, _, rfl, pv_int k⟩
  · obtain ⟨v, rfl, r1⟩ := reps1 r
    simp only [Rep] at r1
    obtain ⟨a, ws, rfl, q, r2⟩ := r1
    split at h
    · rename_i i ns e
      cases h
      have e2 := intsOf_rep e r2
      subst e2
      refine .inr ⟨a, _, rfl, SqL.of (s _ _ q), by simp, fun m hm hl => ?_⟩
      have := pv_int k
      obtain ⟨z1, z2⟩ := minI_mem (i := i) (ns := ns)
      have e3 : m = minI (i :: ns) := Int.le_antisymm (hl _ z1) (z2 m hm)
      rw [e3]
      exact this
    · cases h
  · cases h
    obtain ⟨v, rfl, r1⟩ := reps1 r
    simp only [Rep] at r1
    subst r1
    exact .inl (.inl ⟨_, rfl, pv_int k⟩)
  · cases h
    obtain ⟨v, rfl, r1⟩ := reps1 r
    simp only [Rep] at r1
    subst r1
    exact .inl (.inr ⟨_, rfl, pv_int k⟩)
  · obtain ⟨v, rfl, r1⟩ := reps1 r
    simp only [Rep] at r1
    subst r1
    split at h
    · rename_i n e
      split at h
      · rename_i hz
        cases h
        exact .inr ⟨_, _, rfl, e, hz, pv_int k⟩
      · cases h
    · cases h
  · obtain ⟨v, rfl, r1⟩ := reps1 r
    simp only [Rep] at r1
    subst r1
    split at h
    · rename_i hz
      cases h
      exact ⟨_, rfl, hz, pv_str k⟩
    · cases h
  · cases h
    obtain ⟨v, rfl, r1⟩ := reps1 r
    simp only [Rep] at r1
    obtain ⟨a, ws, rfl, q, r2⟩ := r1
    exact ⟨a, ws, rfl, .inl (SqL.of (s _ _ q)), fun l hl => k _ r2 l hl⟩
  · cases h
    obtain ⟨v, rfl, r1⟩ := reps1 r
    simp only [Rep] at r1
    obtain ⟨a, ws, rfl, q, r2⟩ := r1
    exact ⟨a, ws, rfl, .inr (SqT_mono q s), fun l hl => k _ r2 l hl⟩
  · cases h
    obtain ⟨v, rfl, r1⟩ := reps1 r
    simp only [Rep] at r1
    obtain ⟨a, rfl, q⟩ := r1
    exact ⟨a, _, rfl, .inl (SqL_mono q s), fun l hl => k _ Reps.scr l hl⟩
  · cases h
    obtain ⟨v, w, rfl, r1, r2⟩ := reps2 r
    simp only [Rep] at r1 r2
    subst r1; subst r2
    exact ⟨_, _, rfl, pv_int k⟩
  · cases h

/-! ### truth -/
def truD : D → Option Bool
  | .non => some false
  | .bl b => some b
  | .int i => some (i != 0)
  | .str z => if z.length ≤ sizeLine then some ((z.length : Int) != 0) else none
  | .tup ds => some (!ds.isEmpty)
  | .lst ds => some (!ds.isEmpty)
  | .scr ns => some (!ns.isEmpty)
  | .ins _ _ => none
theorem Reps.emp {S : Hp} {ds : List D} {vs : List V} (h : Reps g S ds vs) : vs.isEmpty = ds.isEmpty := by
  have := Reps.len h
  cases ds <;> cases vs <;> simp_all
theorem tru_rep {S H : Hp} {d : D} {v : V} {b : Bool} (e : truD d = some b) (s : Same S H) (h : Rep g S d v) : TruV g.K v H b := by
  cases d with
  | non => simp only [Rep] at h; subst h; simp only [truD, Option.some.injEq] at e; exact e.symm
  | bl _ => simp only [Rep] at h; subst h; simp only [truD, Option.some.injEq] at e; exact e.symm
  | int _ => simp only [Rep] at h; subst h; simp only [truD, Option.some.injEq] at e; exact e.symm
  | str z =>
    simp only [Rep] at h
    subst h
    simp only [truD] at e
    split at e
    · rename_i hz
      cases e
      exact ⟨hz, rfl⟩
    · cases e
  | tup ds =>
    simp only [Rep] at h
    obtain ⟨a, vs, rfl, q, r⟩ := h
    simp only [truD, Option.some.injEq] at e
    exact .inr (.inl ⟨vs, SqT_mono q s, by rw [← e, Reps.emp r]⟩)
  | lst ds =>
    simp only [Rep] at h
    obtain ⟨a, vs, rfl, q, r⟩ := h
    simp only [truD, Option.some.injEq] at e
    exact .inl ⟨vs, SqL.of (s _ _ q), by rw [← e, Reps.emp r]⟩
  | scr ns =>
    simp only [Rep] at h
    obtain ⟨a, rfl, q⟩ := h
    simp only [truD, Option.some.injEq] at e
    refine .inl ⟨_, SqL_mono q s, ?_⟩
    rw [← e]
    cases ns <;> rfl
  | ins _ _ => simp [truD] at e
section
variable {Z : Addr → Prop} {F : List Addr} {ρ : En} {σ : Sg} {H H' H1 H2 : Hp} {W : WX}
def truM (m : M R) : M Bool := m >>= fun r => M.of (truD r.d)
theorem snd_truth {te : TE} {m : M R} (h1 : SndE g te W ρ m) : SndT g (fun σ H Q => te σ H fun x H' => ∃ k, TruV g.K x H' k ∧ Q k H') W ρ (truM m) := by
  cases m with
  | stuck => exact trivial
  | rai c p => exact fun σ H Z F Q st h => h1 σ H Z F _ st h
  | ok r =>
    unfold truM
    rw [M.bind_ok]
    cases e : truD r.d with
    | none => exact trivial
    | some b => exact fun σ H Z F Q st h => h1 σ H Z F _ st fun v H1 f p => ⟨b, tru_rep e hid_sub (p.read st), h H1 p.same⟩
/-- a comparison's answer as a test -/
theorem snd_test {te : TE} {m : M R} (h1 : SndE g te W ρ m) : SndT g (tTest te) W ρ (m >>= fun r => match r.d with | .bl b => .ok b | _ => .stuck) := by
  cases m with
  | stuck => exact trivial
  | rai c p => exact fun σ H Z F Q st h => h1 σ H Z F _ st h
  | ok r =>
    rw [M.bind_ok]
    cases e : r.d with
    | bl b =>
      refine fun σ H Z F Q st h => h1 σ H Z F _ st fun v H1 f p => ?_
      have := p.read st
      rw [e] at this
      simp only [Rep] at this
      exact ⟨b, this, h H1 p.same⟩
    | _ => exact trivial

/-! ### displays -/
def R.o : R → Option O
  | .val c d => if (c || d.flat) = true then some (.sh d) else none
  | .own o => some o
  | .bor o => if o.d.flat = true then some (.sh o.d) else none
def ros : List R → Option (List O)
  | [] => some []
  | r :: rs => match r.o, ros rs with
    | some o, some os => some (o :: os)
    | _, _ => none
def shs : List O → Option (List D)
  | [] => some []
  | .sh d :: os => (shs os).map (d :: ·)
  | _ :: _ => none
def mkTup (rs : List R) : R := match ros rs with
  | some os => match shs os with
    | some ds => .val true (.tup ds)
    | none => .own (.tup os)
  | none => .val false (.tup (rds rs))
def mkLst (rs : List R) : R := match ros rs with
  | some os => .own (.lst os)
  | none => .val false (.lst (rds rs))
theorem RR.o (st : StE g Z F ρ σ H) (s : Same H H') {r : R} {o : O} {v : V} {f f0 : List Addr} (fr : ∀ a ∈ f0, H a = none) (e : r.o = some o) (h : RR g (hid (fun a => a ∈ f0 ∨ a ∈ F ∨ Z a) H') (hid (fun a => a ∈ f0 ∨ Z a) H') H' F r v f) :
    ORep g (hid (fun a => a ∈ f0 ∨ a ∈ F ∨ Z a) H') H' o v f := by
  have fl : ∀ (d : D) (v : V), d.flat = true → Rep g (hid (fun a => a ∈ f0 ∨ Z a) H') d v → Rep g (hid (fun a => a ∈ f0 ∨ a ∈ F ∨ Z a) H') d v := fun d v hd k => by
    refine Rep.flat (hid_leT fun a u n e => ⟨e, fun z => ?_⟩) d v hd k
    rcases z with z | z | z
    · exact absurd (.inl z) n
    · exact (st.soft a z).same s
    · exact absurd (.inr z) n
  cases r with
  | val c d =>
    simp only [R.o] at e
    split at e
    · rename_i hc
      cases e
      obtain ⟨rfl, h⟩ := h
      simp only [ORep]
      refine ⟨trivial, ?_⟩
      cases c with
      | true => exact h
      | false => exact fl d v (by simpa using hc) h
    · cases e
  | own o' =>
    simp only [R.o, Option.some.injEq] at e
    subst e
    exact h
  | bor o' =>
    simp only [R.o] at e
    split at e
    · rename_i hc
      cases e
      obtain ⟨rfl, f', h, hs⟩ := h
      simp only [ORep]
      refine ⟨trivial, fl _ v hc (ORep.view (hid_mono (Same.refl _) fun a u e z => ?_) o' v f' (fun a ha u e => hid_some.mpr (And.intro (fun z => ?_) e)) h)⟩
      · rcases z with z | z
        · exact .inl z
        · exact .inr (.inr z)
      · rcases z with z | z
        · obtain ⟨w, e2⟩ := (st.soft a (hs a ha)).some
          rw [fr a z] at e2; cases e2
        · exact st.dj a (hs a ha) z
    · cases e
theorem RRs.os (st : StE g Z F ρ σ H) (s : Same H H') {f0 : List Addr} (fr : ∀ a ∈ f0, H a = none) : ∀ {rs : List R} {os : List O} {vs : List V} {f : List Addr}, ros rs = some os →
    RRs g (hid (fun a => a ∈ f0 ∨ a ∈ F ∨ Z a) H') (hid (fun a => a ∈ f0 ∨ Z a) H') H' F rs vs f → OReps g (hid (fun a => a ∈ f0 ∨ a ∈ F ∨ Z a) H') H' os vs f
  | [], os, vs, f, e, h => by
    simp only [ros, Option.some.injEq] at e
    subst e
    simp only [OReps]
    exact h
  | r :: rs, os, vs, f, e, h => by
    simp only [ros] at e
    cases e1 : r.o with
    | none => rw [e1] at e; cases e
    | some o =>
      cases e2 : ros rs with
      | none => rw [e1, e2] at e; cases e
      | some os' =>
        rw [e1, e2] at e
        cases e
        obtain ⟨v, w, f1, f2, rfl, rfl, h1, h2⟩ := h
        simp only [OReps]
        exact ⟨v, w, f1, f2, rfl, rfl, RR.o st s fr e1 h1, RRs.os st s fr e2 h2⟩
theorem shs_rep {S : Hp} : ∀ {os : List O} {ds : List D} {vs : List V} {f : List Addr}, shs os = some ds → OReps g S H os vs f → f = [] ∧ Reps g S ds vs
  | [], ds, vs, f, e, h => by
    simp only [shs, Option.some.injEq] at e
    subst e
    simp only [OReps] at h
    refine ⟨h.2, ?_⟩
    simp only [Reps]
    exact h.1
  | o :: os, ds, vs, f, e, h => by
    cases o <;> simp only [shs, reduceCtorEq] at e
    rename_i d
    obtain ⟨es, e1, rfl⟩ := Option.map_eq_some_iff.mp e
    simp only [OReps, ORep] at h
    obtain ⟨v, r, f1, f2, rfl, rfl, ⟨rfl, h1⟩, h2⟩ := h
    obtain ⟨rfl, h3⟩ := shs_rep e1 h2
    simp only [Reps]
    exact ⟨rfl, v, r, rfl, h1, h3⟩
theorem PRs.freshAt (st : StE g Z F ρ σ H) {rs : List R} {vs : List V} {f : List Addr} (p : PRs g Z F H rs vs H' f) {q : Addr} (hq : H' q = none) : H q = none ∧ q ∉ F ∧ ¬ Z q ∧ q ∉ f := by
  have h0 : H q = none := p.same.free hq
  refine ⟨h0, fun z => ?_, fun z => st.zd q z h0, fun z => p.al q z hq⟩
  obtain ⟨u, e⟩ := (st.soft q z).some
  rw [h0] at e; cases e
theorem snd_lst {ta : TA} {m : M (List R)} (h1 : SndA g ta W ρ m) : SndE g (tLst ta) W ρ (m >>= fun rs => if rs.length ≤ sizeLine then .ok (mkLst rs) else .stuck) := by
  cases m with
  | stuck => exact trivial
  | rai c p => exact fun σ H Z F Q st h => h1 σ H Z F _ st h
  | ok rs =>
    rw [M.bind_ok]
    split
    · rename_i hz
      refine fun σ H Z F Q st h => h1 σ H Z F _ st fun vs H1 f p => ⟨?_, fun q hq => ?_⟩
      · have := Reps.len (p.read st)
        rw [this]
        simpa [rds] using hz
      · obtain ⟨h0, nF, nZ, nf⟩ := p.freshAt st hq
        unfold mkLst at h
        cases e : ros rs with
        | some os =>
          rw [e] at h
          have k := RRs.os st p.same p.fr e p.rr
          refine h _ _ (q :: f) ⟨p.same.trans (upd_le hq), List.nodup_cons.mpr ⟨nf, p.nd⟩, fun a ha => ?_, ?_⟩
          · rcases List.mem_cons.mp ha with rfl | ha
            · exact h0
            · exact p.fr a ha
          · show ORep g _ _ (.lst os) _ _
            simp only [ORep]
            refine ⟨q, vs, f, rfl, upd_same, rfl, OReps.mono (hid_mono (upd_le hq) fun a u e z => ?_) os vs f (fun a _ u e => upd_le hq a u e) k⟩
            rcases z with z | z
            · rcases List.mem_cons.mp z with rfl | z
              · rw [hq] at e; cases e
              · exact .inl z
            · exact .inr z
        | none =>
          rw [e] at h
          have k := p.read st
          refine h _ _ [] ⟨p.same.trans (upd_le hq), List.nodup_nil, fun _ z => (nomatch z), rfl, ?_⟩
          show Rep g (hid _ _) (.lst (rds rs)) _
          simp only [Rep]
          refine ⟨q, vs, rfl, hid_some.mpr (And.intro (fun z => ?_) upd_same), Reps.mono (hid_mono (upd_le hq) fun a u e z => ?_) _ _ k⟩
          · rcases z with z | z
            · cases z
            · exact nZ z
          · rcases z with z | z
            · cases z
            · exact .inr z
    · exact trivial
theorem snd_tup {ta : TA} {m : M (List R)} (h1 : SndA g ta W ρ m) : SndE g (tTup ta) W ρ (m >>= fun rs => if rs.length ≤ sizeLine then .ok (mkTup rs) else .stuck) := by
  cases m with
  | stuck => exact trivial
  | rai c p => exact fun σ H Z F Q st h => h1 σ H Z F _ st h
  | ok rs =>
    rw [M.bind_ok]
    split
    · rename_i hz
      refine fun σ H Z F Q st h => h1 σ H Z F _ st fun vs H1 f p => ⟨?_, fun q hq => ?_⟩
      · have := Reps.len (p.read st)
        rw [this]
        simpa [rds] using hz
      · obtain ⟨h0, nF, nZ, nf⟩ := p.freshAt st hq
        unfold mkTup at h
        cases e : ros rs with
        | some os =>
          rw [e] at h
          have k := RRs.os st p.same p.fr e p.rr
          have k2 : OReps g (hid (fun a => a ∈ f ∨ a ∈ F ∨ Z a) (upd H1 q (.tup vs))) (upd H1 q (.tup vs)) os vs f := OReps.mono (hid_mono (upd_le hq) fun a u e z => z) os vs f (fun a _ u e => upd_le hq a u e) k
          have vis : hid (fun a => a ∈ f ∨ a ∈ F ∨ Z a) (upd H1 q (.tup vs)) q = some (.tup vs) := hid_some.mpr (And.intro (fun z => by
            rcases z with z | z | z
            · exact nf z
            · exact nF z
            · exact nZ z) upd_same)
          cases e2 : shs os with
          | some ds =>
            simp only [e2] at h
            obtain ⟨hf, k3⟩ := shs_rep e2 k2
            refine h _ _ [] ⟨p.same.trans (upd_le hq), List.nodup_nil, fun _ z => (nomatch z), rfl, ?_⟩
            rw [hf] at k3 vis
            show Rep g (hid _ _) (.tup ds) _
            simp only [Rep]
            exact ⟨q, vs, rfl, SqT.of vis, k3⟩
          | none =>
            simp only [e2] at h
            refine h _ _ f ⟨p.same.trans (upd_le hq), p.nd, p.fr, ?_⟩
            show ORep g _ _ (.tup os) _ _
            simp only [ORep]
            exact ⟨q, vs, rfl, SqT.of vis, k2⟩
        | none =>
          rw [e] at h
          have k := p.read st
          refine h _ _ [] ⟨p.same.trans (upd_le hq), List.nodup_nil, fun _ z => (nomatch z), rfl, ?_⟩
          show Rep g (hid _ _) (.tup (rds rs)) _
          simp only [Rep]
          refine ⟨q, vs, rfl, SqT.of (hid_some.mpr (And.intro (fun z => ?_) upd_same)), Reps.mono (hid_mono (upd_le hq) fun a u e z => ?_) _ _ k⟩
          · rcases z with z | z
            · cases z
            · exact nZ z
          · rcases z with z | z
            · cases z
            · exact .inr z
    · exact trivial
end
end TL

namespace TL
open PySem PySem.Spec L2
variable {g : Gc} {Z : Addr → Prop} {F : List Addr} {ρ : En} {σ : Sg} {H H' H1 H2 : Hp} {W : WX}

/-! ### names, constants -/
def evVar (ρ : En) (i : Nat) : M R := match ρ[i]? with
  | some (some (.sh d)) => .ok (.val true d)
  | some (some o) => .ok (.bor o)
  | _ => .stuck
theorem PR.val {d : D} {v : V} (s : Same H H') (h : Rep g (hid (fun a => a ∈ F ∨ Z a) H') d v) : PR g Z F H (.val true d) v H' [] :=
  ⟨s, List.nodup_nil, fun _ z => (nomatch z), rfl, Rep.mono (hid_mono (Same.refl _) fun a u e z => by
    rcases z with z | z
    · cases z
    · exact z) d v h⟩
theorem PR.borr {o : O} {v : V} {f : List Addr} (s : Same H H') (h : ORep g (hid (fun a => a ∈ F ∨ Z a) H') H' o v f) (hf : ∀ a ∈ f, a ∈ F) : PR g Z F H (.bor o) v H' [] :=
  ⟨s, List.nodup_nil, fun _ z => (nomatch z), rfl, f, ORep.mono (hid_mono (Same.refl _) fun a u e z => by
    rcases z with z | z
    · cases z
    · exact z) o v f (fun a _ u e => e) h, hf⟩
theorem snd_var (i : Nat) : SndE g (tVar i) W ρ (evVar ρ i) := by
  unfold evVar
  cases e : ρ[i]? with
  | none => exact trivial
  | some x =>
    cases x with
    | none => exact trivial
    | some o =>
      have main : ∀ σ H Z F, StE g Z F ρ σ H → ∃ v f', σ[i]? = some (some v) ∧ ORep g (hid (fun a => a ∈ F ∨ Z a) H) H o v f' ∧ ∀ a ∈ f', a ∈ F := fun σ H Z F st => Slots.get ρ σ F st.sl e
      have bo : SndE g (tVar i) W ρ (.ok (.bor o)) := fun σ H Z F Q st h => by
        obtain ⟨v, f', e1, e2, e3⟩ := main σ H Z F st
        exact ⟨v, e1, h v H [] (PR.borr (Same.refl _) e2 e3)⟩
      cases o with
      | sh d =>
        intro σ H Z F Q st h
        obtain ⟨v, f', e1, e2, e3⟩ := main σ H Z F st
        simp only [ORep] at e2
        exact ⟨v, e1, h v H [] (PR.val (Same.refl _) e2.2)⟩
      | lst os => exact bo
      | tup os => exact bo
      | ins c os => exact bo
theorem snd_const {d : D} {v : V} (hd : ∀ S, Rep g S d v) : SndE g (tC v) W ρ (.ok (.val true d)) := fun σ H Z F Q st h => h v H [] (PR.val (Same.refl _) (hd _))

/-! ### parts -/
def bo : O → R
  | .sh d => .val true d
  | o => .bor o
def subD (c : Bool) : D → Int → Option R
  | .lst ds, i => (atI ds i).map (.val c)
  | .tup ds, i => (atI ds i).map (.val c)
  | .scr ns, i => (atI ns i).map fun n => .val true (.int n)
  | .str z, i => if z.length ≤ sizeLine then (atI z.cps.toList i).map fun k => .val true (.str ⟨#[k]⟩) else none
  | _, _ => none
def subR (r : R) (i : Int) : Option R := match r with
  | .bor (.lst os) => (atI os i).map bo
  | .bor (.tup os) => (atI os i).map bo
  | r => subD r.clean r.d i
theorem atI_len {α β : Type} {xs : List α} {ys : List β} {i : Int} {x : α} (h : atI xs i = some x) (l : ys.length = xs.length) : ∃ j : Nat, xs[j]? = some x ∧ atI ys i = ys[j]? := by
  unfold atI at h ⊢
  rw [l]
  cases e : ixN xs.length i with
  | none => rw [e] at h; cases h
  | some j =>
    rw [e] at h
    exact ⟨j, h, rfl⟩
theorem PR.part {c : Bool} {d : D} {v : V} (s : Same H H') (h : Rep g (hid (seen c Z F) H') d v) : PR g Z F H (.val c d) v H' [] := by
  refine ⟨s, List.nodup_nil, fun _ z => (nomatch z), rfl, ?_⟩
  cases c with
  | true =>
    refine Rep.mono (hid_mono (Same.refl _) fun a u e z => ?_) d v h
    rcases z with z | z | z
    · cases z
    · exact .inl ⟨rfl, z⟩
    · exact .inr z
  | false =>
    refine Rep.mono (hid_mono (Same.refl _) fun a u e z => ?_) d v h
    rcases z with z | z
    · cases z
    · exact .inr z
theorem PR.bo {o : O} {v : V} {f : List Addr} (s : Same H H') (h : ORep g (hid (fun a => a ∈ F ∨ Z a) H') H' o v f) (hf : ∀ a ∈ f, a ∈ F) : PR g Z F H (bo o) v H' [] := by
  cases o with
  | sh d =>
    simp only [ORep] at h
    exact PR.val s h.2
  | lst os => exact PR.borr s h hf
  | tup os => exact PR.borr s h hf
  | ins c os => exact PR.borr s h hf
theorem OReps.len {S : Hp} : ∀ {os : List O} {vs : List V} {f : List Addr}, OReps g S H os vs f → vs.length = os.length
  | [], vs, f, h => by
    simp only [OReps] at h
    rw [h.1]
    all_goals rfl
  | o :: os, vs, f, h => by
    simp only [OReps] at h
    obtain ⟨v, r, f1, f2, rfl, rfl, _, h2⟩ := h
    rw [List.length_cons, List.length_cons, OReps.len h2]
/-- what the subscript asks, from the two results -/
theorem sub_ok (st : StE g Z F ρ σ H) (s : Same H1 H2) {r r' : R} {i : Int} {v : V} {f1 : List Addr} {Q : VK} (p1 : PR g Z F H r v H1 f1) (e : subR r i = some r') (h : ∀ w f, PR g Z F H r' w H2 f → Q w H2) : rIx g.K v (.int i) H2 Q := by
  have s0 : Same H H2 := p1.same.trans s
  have gen : subD r.clean r.d i = some r' → rIx g.K v (.int i) H2 Q := fun e => by
    have k : Rep g (hid (seen r.clean Z F) H2) r.d v := Rep.mono (hid_mono s fun a u e z => z) _ _ (p1.read st)
    generalize r.d = d at e k
    generalize r.clean = c at e k
    cases d <;> simp only [subD, reduceCtorEq] at e
    · rename_i z
      simp only [Rep] at k
      subst k
      split at e
      · rename_i hz
        obtain ⟨n, e1, rfl⟩ := Option.map_eq_some_iff.mp e
        exact .inr (.inr ⟨z, i, n, rfl, rfl, hz, e1, h _ [] (PR.val s0 (by simp only [Rep]))⟩)
      · cases e
    · simp only [Rep] at k
      obtain ⟨a, vs, rfl, q, rr⟩ := k
      obtain ⟨x, e1, rfl⟩ := Option.map_eq_some_iff.mp e
      obtain ⟨j, e2, e3⟩ := atI_len e1 (Reps.len rr)
      obtain ⟨w, e4, k2⟩ := Reps.get rr e2
      exact .inr (.inl ⟨a, vs, i, w, rfl, rfl, SqT_mono q hid_sub, e3.trans e4, h w [] (PR.part s0 k2)⟩)
    · simp only [Rep] at k
      obtain ⟨a, vs, rfl, q, rr⟩ := k
      obtain ⟨x, e1, rfl⟩ := Option.map_eq_some_iff.mp e
      obtain ⟨j, e2, e3⟩ := atI_len e1 (Reps.len rr)
      obtain ⟨w, e4, k2⟩ := Reps.get rr e2
      exact .inl ⟨a, vs, i, w, rfl, rfl, SqL.of (hid_sub _ _ q), e3.trans e4, h w [] (PR.part s0 k2)⟩
    · simp only [Rep] at k
      obtain ⟨a, rfl, q⟩ := k
      obtain ⟨n, e1, rfl⟩ := Option.map_eq_some_iff.mp e
      refine .inl ⟨a, _, i, .int n, rfl, rfl, SqL_mono q hid_sub, ?_, h _ [] (PR.val s0 (by simp only [Rep]))⟩
      obtain ⟨j, e2, e3⟩ := atI_len (ys := List.map V.int _) e1 (List.length_map V.int)
      rw [e3, List.getElem?_map, e2]
      rfl
  unfold subR at e
  split at e
  · rename_i os
    obtain ⟨_, f', k, hs⟩ := p1.rr
    simp only [ORep] at k
    obtain ⟨a, vs, f2, rfl, q, rfl, rr⟩ := k
    obtain ⟨x, e1, rfl⟩ := Option.map_eq_some_iff.mp e
    obtain ⟨j, e2, e3⟩ := atI_len e1 (OReps.len rr)
    obtain ⟨w, f3, e4, k2, hs2⟩ := OReps.get rr e2
    refine .inl ⟨a, vs, i, w, rfl, rfl, SqL.of (s _ _ q), e3.trans e4, h w [] (PR.bo s0 (ORep.mono (hid_mono s fun a u e z => .inr z) _ _ _ (fun a _ u e => s a u e) k2) fun a ha => hs a (List.mem_cons_of_mem _ (hs2 a ha)))⟩
  · rename_i os
    obtain ⟨_, f', k, hs⟩ := p1.rr
    simp only [ORep] at k
    obtain ⟨a, vs, rfl, q, rr⟩ := k
    obtain ⟨x, e1, rfl⟩ := Option.map_eq_some_iff.mp e
    obtain ⟨j, e2, e3⟩ := atI_len e1 (OReps.len rr)
    obtain ⟨w, f3, e4, k2, hs2⟩ := OReps.get rr e2
    exact .inr (.inl ⟨a, vs, i, w, rfl, rfl, SqT_mono q (hid_sub.trans s), e3.trans e4, h w [] (PR.bo s0 (ORep.mono (hid_mono s fun a u e z => .inr z) _ _ _ (fun a _ u e => s a u e) k2) fun a ha => hs a (hs2 a ha))⟩)
  · exact gen e
def evIdx (m n : M R) : M R := m >>= fun r => n >>= fun q => match q.d with
  | .int i => M.of (subR r i)
  | _ => .stuck
theorem PR.ofEarlier {f1 : List Addr} {r : R} {v w : V} {q : R} {f2 : List Addr} (p1 : PR g Z F H r v H1 f1) (p2 : PR g (fun a => a ∈ f1 ∨ Z a) F H1 q w H2 f2) : PR g Z F H q w H2 f2 :=
  ⟨p1.same.trans p2.same, p2.nd, fun a ha => p1.same.free (p2.fr a ha), p2.rr.mono (hid_mono (Same.refl _) fun a u e z => by
    rcases z with z | z | z
    · exact .inl z
    · exact .inr (.inl z)
    · exact .inr (.inr (.inr z))) (hid_mono (Same.refl _) fun a u e z => by
    rcases z with z | z
    · exact .inl z
    · exact .inr (.inr z)) (Same.refl _)⟩
theorem snd_idx {ta tb : TE} {m n : M R} (h1 : SndE g ta W ρ m) (h2 : SndE g tb W ρ n) : SndE g (tOp (rIx g.K) ta tb) W ρ (evIdx m n) := by
  unfold evIdx
  cases m with
  | stuck => exact trivial
  | rai c p => exact fun σ H Z F Q st h => h1 σ H Z F _ st h
  | ok r =>
    rw [M.bind_ok]
    cases n with
    | stuck => exact trivial
    | rai c p =>
      exact fun σ H Z F Q st h => h1 σ H Z F _ st fun v H1 f1 p1 => h2 σ H1 _ F _ (st.ext p1.same p1.fr p1.al) fun d H' s x => h d H' (p1.same.trans s) (x.pre p1.same)
    | ok q =>
      rw [M.bind_ok]
      cases e : q.d with
      | int i =>
        simp only
        cases e2 : subR r i with
        | none => exact trivial
        | some r' =>
          refine fun σ H Z F Q st h => h1 σ H Z F _ st fun v H1 f1 p1 => h2 σ H1 _ F _ (st.ext p1.same p1.fr p1.al) fun w H2 f2 p2 => ?_
          have k := (p1.read2 st p2).2
          rw [e] at k
          simp only [Rep] at k
          subst k
          exact sub_ok st p2.same p1 e2 fun w f p => h w H2 f p
      | _ => exact trivial

/-! ### and, or, not, if -/
theorem ext_tail {te : TE} {m : M R} {f1 : List Addr} {r : R} {v : V} (st : StE g Z F ρ σ H) (p1 : PR g Z F H r v H1 f1) (h : SndE g te W ρ m) {Q : VK}
    (ok : ∀ q, m = .ok q → ∀ w H2 f2, PR g Z F H q w H2 f2 → Q w H2) (ra : ∀ c p, m = .rai c p → ∀ d H', Same H H' → ExcOk g H H' p d → W (.ref (g.cls c)) d σ H') (ns : m ≠ .stuck) : te σ H1 Q := by
  cases m with
  | stuck => exact absurd rfl ns
  | ok q => exact h σ H1 _ F Q (st.ext p1.same p1.fr p1.al) fun w H2 f2 p2 => ok q rfl w H2 f2 (p1.ofEarlier p2)
  | rai c p => exact h σ H1 _ F Q (st.ext p1.same p1.fr p1.al) fun d H' s x => ra c p rfl d H' (p1.same.trans s) (x.pre p1.same)
def andV (m n : M R) : M R := m >>= fun r => match r.d with
  | .bl true => n
  | .bl false => .ok (.val true (.bl false))
  | _ => .stuck
def orV (m n : M R) : M R := m >>= fun r => match r.d with
  | .bl false => n
  | .bl true => .ok (.val true (.bl true))
  | _ => .stuck
theorem PR.bl {b : Bool} (s : Same H H') : PR g Z F H (.val true (.bl b)) (.bl b) H' [] := PR.val s (by simp only [Rep])
theorem snd_andV {ta tb : TE} {m n : M R} (h1 : SndE g ta W ρ m) (h2 : SndE g tb W ρ n) : SndE g (tAndV ta tb) W ρ (andV m n) := by
  unfold andV
  cases m with
  | stuck => exact trivial
  | rai c p => exact fun σ H Z F Q st h => h1 σ H Z F _ st h
  | ok r =>
    rw [M.bind_ok]
    cases e : r.d with
    | bl b =>
      have rd : ∀ {σ H Z F} {v : V} {H1 : Hp} {f1 : List Addr}, StE g Z F ρ σ H → PR g Z F H r v H1 f1 → v = .bl b := fun st p => by
        have k := p.read st
        rw [e] at k
        simpa only [Rep] using k
      cases b with
      | false => exact fun σ H Z F Q st h => h1 σ H Z F _ st fun v H1 f1 p1 => ⟨false, rd st p1, by rw [if_neg (by decide)]; exact h _ _ [] (PR.bl p1.same)⟩
      | true =>
        show SndE g _ W ρ n
        cases n with
        | stuck => exact trivial
        | ok q =>
          refine fun σ H Z F Q st h => h1 σ H Z F _ st fun v H1 f1 p1 => ⟨true, rd st p1, ?_⟩
          rw [if_pos rfl]
          exact ext_tail st p1 h2 (fun q' e' w H2 f2 p2 => by cases e'; exact h w H2 f2 p2) (fun c p e' => by cases e') (by simp)
        | rai c p =>
          refine fun σ H Z F Q st h => h1 σ H Z F _ st fun v H1 f1 p1 => ⟨true, rd st p1, ?_⟩
          rw [if_pos rfl]
          exact ext_tail st p1 h2 (fun q' e' => by cases e') (fun c' p' e' d H' s x => by cases e'; exact h d H' s x) (by simp)
    | _ => exact trivial
theorem snd_orV {ta tb : TE} {m n : M R} (h1 : SndE g ta W ρ m) (h2 : SndE g tb W ρ n) : SndE g (tOrV ta tb) W ρ (orV m n) := by
  unfold orV
  cases m with
  | stuck => exact trivial
  | rai c p => exact fun σ H Z F Q st h => h1 σ H Z F _ st h
  | ok r =>
    rw [M.bind_ok]
    cases e : r.d with
    | bl b =>
      have rd : ∀ {σ H Z F} {v : V} {H1 : Hp} {f1 : List Addr}, StE g Z F ρ σ H → PR g Z F H r v H1 f1 → v = .bl b := fun st p => by
        have k := p.read st
        rw [e] at k
        simpa only [Rep] using k
      cases b with
      | true => exact fun σ H Z F Q st h => h1 σ H Z F _ st fun v H1 f1 p1 => ⟨true, rd st p1, by rw [if_pos rfl]; exact h _ _ [] (PR.bl p1.same)⟩
      | false =>
        show SndE g _ W ρ n
        cases n with
        | stuck => exact trivial
        | ok q =>
          refine fun σ H Z F Q st h => h1 σ H Z F _ st fun v H1 f1 p1 => ⟨false, rd st p1, ?_⟩
          rw [if_neg (by decide)]
          exact ext_tail st p1 h2 (fun q' e' w H2 f2 p2 => by cases e'; exact h w H2 f2 p2) (fun c p e' => by cases e') (by simp)
        | rai c p =>
          refine fun σ H Z F Q st h => h1 σ H Z F _ st fun v H1 f1 p1 => ⟨false, rd st p1, ?_⟩
          rw [if_neg (by decide)]
          exact ext_tail st p1 h2 (fun q' e' => by cases e') (fun c' p' e' d H' s x => by cases e'; exact h d H' s x) (by simp)
    | _ => exact trivial
def notV (m : M R) : M R := m >>= fun r => match r.d with
  | .bl b => .ok (.val true (.bl (!b)))
  | _ => .stuck
theorem snd_notV {ta : TE} {m : M R} (h1 : SndE g ta W ρ m) : SndE g (tNotV ta) W ρ (notV m) := by
  unfold notV
  cases m with
  | stuck => exact trivial
  | rai c p => exact fun σ H Z F Q st h => h1 σ H Z F _ st h
  | ok r =>
    rw [M.bind_ok]
    cases e : r.d with
    | bl b =>
      refine fun σ H Z F Q st h => h1 σ H Z F _ st fun v H1 f1 p1 => ⟨b, ?_, h _ _ [] (PR.bl p1.same)⟩
      have k := p1.read st
      rw [e] at k
      simpa only [Rep] using k
    | _ => exact trivial
/-! tests -/
def andT (m n : M Bool) : M Bool := m >>= fun b => if b = true then n else .ok false
def orT (m n : M Bool) : M Bool := m >>= fun b => if b = true then .ok true else n
theorem snd_andT {ta tb : TT} {m n : M Bool} (h1 : SndT g ta W ρ m) (h2 : SndT g tb W ρ n) : SndT g (tAnd ta tb) W ρ (andT m n) := by
  unfold andT
  cases m with
  | stuck => exact trivial
  | rai c p => exact fun σ H Z F Q st h => h1 σ H Z F _ st h
  | ok b =>
    rw [M.bind_ok]
    cases b with
    | false => exact fun σ H Z F Q st h => h1 σ H Z F _ st fun H1 s => by rw [if_neg (by decide)]; exact h H1 s
    | true =>
      rw [if_pos rfl]
      cases n with
      | stuck => exact trivial
      | ok c => exact fun σ H Z F Q st h => h1 σ H Z F _ st fun H1 s => by rw [if_pos rfl]; exact h2 σ H1 Z F Q (st.ext0 s) fun H2 s2 => h H2 (s.trans s2)
      | rai c p => exact fun σ H Z F Q st h => h1 σ H Z F _ st fun H1 s => by rw [if_pos rfl]; exact h2 σ H1 Z F Q (st.ext0 s) fun d H2 s2 x => h d H2 (s.trans s2) (x.pre s)
theorem snd_orT {ta tb : TT} {m n : M Bool} (h1 : SndT g ta W ρ m) (h2 : SndT g tb W ρ n) : SndT g (tOr ta tb) W ρ (orT m n) := by
  unfold orT
  cases m with
  | stuck => exact trivial
  | rai c p => exact fun σ H Z F Q st h => h1 σ H Z F _ st h
  | ok b =>
    rw [M.bind_ok]
    cases b with
    | true => exact fun σ H Z F Q st h => h1 σ H Z F _ st fun H1 s => by rw [if_pos rfl]; exact h H1 s
    | false =>
      rw [if_neg (by decide)]
      cases n with
      | stuck => exact trivial
      | ok c => exact fun σ H Z F Q st h => h1 σ H Z F _ st fun H1 s => by rw [if_neg (by decide)]; exact h2 σ H1 Z F Q (st.ext0 s) fun H2 s2 => h H2 (s.trans s2)
      | rai c p => exact fun σ H Z F Q st h => h1 σ H Z F _ st fun H1 s => by rw [if_neg (by decide)]; exact h2 σ H1 Z F Q (st.ext0 s) fun d H2 s2 x => h d H2 (s.trans s2) (x.pre s)
def notT (m : M Bool) : M Bool := m >>= fun b => .ok (!b)
theorem snd_notT {ta : TT} {m : M Bool} (h1 : SndT g ta W ρ m) : SndT g (tNot ta) W ρ (notT m) := by
  unfold notT
  cases m with
  | stuck => exact trivial
  | rai c p => exact fun σ H Z F Q st h => h1 σ H Z F _ st h
  | ok b => exact fun σ H Z F Q st h => h1 σ H Z F _ st fun H1 s => h H1 s
def iteV (c : M Bool) (m n : M R) : M R := c >>= fun b => if b = true then m else n
theorem SndE.at (s : Same H H1) {te : TE} {m : M R} (st : StE g Z F ρ σ H) (h : SndE g te W ρ m) {Q : VK} (ok : ∀ q, m = .ok q → ∀ w H2 f2, PR g Z F H q w H2 f2 → Q w H2) (ra : ∀ c p, m = .rai c p → ∀ d H', Same H H' → ExcOk g H H' p d → W (.ref (g.cls c)) d σ H') (ns : m ≠ .stuck) : te σ H1 Q := by
  cases m with
  | stuck => exact absurd rfl ns
  | ok q => exact h σ H1 Z F Q (st.ext0 s) fun w H2 f2 p2 => ok q rfl w H2 f2 ⟨s.trans p2.same, p2.nd, fun a ha => s.free (p2.fr a ha), p2.rr⟩
  | rai c p => exact h σ H1 Z F Q (st.ext0 s) fun d H' s2 x => ra c p rfl d H' (s.trans s2) (x.pre s)
theorem snd_ite {tc : TT} {ta tb : TE} {c : M Bool} {m n : M R} (h0 : SndT g tc W ρ c) (h1 : SndE g ta W ρ m) (h2 : SndE g tb W ρ n) : SndE g (tIf tc ta tb) W ρ (iteV c m n) := by
  unfold iteV
  cases c with
  | stuck => exact trivial
  | rai c p => exact fun σ H Z F Q st h => h0 σ H Z F _ st h
  | ok b =>
    rw [M.bind_ok]
    cases b with
    | true =>
      rw [if_pos rfl]
      cases m with
      | stuck => exact trivial
      | ok q => exact fun σ H Z F Q st h => h0 σ H Z F _ st fun H1 s => by rw [if_pos rfl]; exact h1.at s st (fun q' e' => by cases e'; exact h) (fun c p e' => by cases e') (by simp)
      | rai c p => exact fun σ H Z F Q st h => h0 σ H Z F _ st fun H1 s => by rw [if_pos rfl]; exact h1.at s st (fun q' e' => by cases e') (fun c' p' e' => by cases e'; exact h) (by simp)
    | false =>
      rw [if_neg (by decide)]
      cases n with
      | stuck => exact trivial
      | ok q => exact fun σ H Z F Q st h => h0 σ H Z F _ st fun H1 s => by rw [if_neg (by decide)]; exact h2.at s st (fun q' e' => by cases e'; exact h) (fun c p e' => by cases e') (by simp)
      | rai c p => exact fun σ H Z F Q st h => h0 σ H Z F _ st fun H1 s => by rw [if_neg (by decide)]; exact h2.at s st (fun q' e' => by cases e') (fun c' p' e' => by cases e'; exact h) (by simp)
end TL

namespace TL
open PySem PySem.Spec L2
variable {g : Gc} {Z : Addr → Prop} {F : List Addr} {ρ : En} {σ : Sg} {H H' H1 H2 : Hp} {W : WX}

/-! ### chains of comparisons -/
def chainV (p p' : D → D → Option PV) (a b c : M R) : M R := a >>= fun x => b >>= fun y => match p x.d y.d with
  | some (.sc (.bl true)) => c >>= fun z => match p' y.d z.d with
    | some (.sc k) => .ok (.val true k)
    | _ => .stuck
  | some (.sc (.bl false)) => .ok (.val true (.bl false))
  | _ => .stuck
theorem snd_chain {r r' : R2} {p p' : D → D → Option PV} (hp : P2Ok g r p) (hp' : P2Ok g r' p') {ta tb tc : TE} {a b c : M R} (h1 : SndE g ta W ρ a) (h2 : SndE g tb W ρ b) (h3 : SndE g tc W ρ c) : SndE g (tChain r r' ta tb tc) W ρ (chainV p p' a b c) := by
  unfold chainV
  cases a with
  | stuck => exact trivial
  | rai c p => exact fun σ H Z F Q st h => h1 σ H Z F _ st h
  | ok x =>
    rw [M.bind_ok]
    cases b with
    | stuck => exact trivial
    | rai c p =>
      exact fun σ H Z F Q st h => h1 σ H Z F _ st fun v H1 f1 p1 => h2 σ H1 _ F _ (st.ext p1.same p1.fr p1.al) fun d H' s x => h d H' (p1.same.trans s) (x.pre p1.same)
    | ok y =>
      rw [M.bind_ok]
      cases e : p x.d y.d with
      | none => exact trivial
      | some pv =>
        cases pv with
        | new xs => exact trivial
        | sc k =>
          cases k with
          | bl k =>
            have go : ∀ {σ H Z F} {v w : V} {H1 H2 : Hp} {f1 f2 : List Addr} {Q : VK}, StE g Z F ρ σ H → (p1 : PR g Z F H x v H1 f1) → (p2 : PR g (fun a => a ∈ f1 ∨ Z a) F H1 y w H2 f2) → Q (.bl k) H2 → r v w H2 Q := fun st p1 p2 q =>
              hp _ _ _ e _ _ _ _ _ hid_sub (PR.read2 st p1 p2).1 (PR.read2 st p1 p2).2 (fun u hu => by
                have := hu (fun _ => none)
                simp only [Rep] at this
                rw [this]
                exact q)
            cases k with
            | false => exact fun σ H Z F Q st h => h1 σ H Z F _ st fun v H1 f1 p1 => h2 σ H1 _ F _ (st.ext p1.same p1.fr p1.al) fun w H2 f2 p2 => go st p1 p2 ⟨false, rfl, by rw [if_neg (by decide)]; exact h _ _ [] (PR.bl (p1.same.trans p2.same))⟩
            | true =>
              show SndE g _ W ρ (c >>= _)
              cases c with
              | stuck => exact trivial
              | rai c p =>
                refine fun σ H Z F Q st h => h1 σ H Z F _ st fun v H1 f1 p1 => h2 σ H1 _ F _ (st.ext p1.same p1.fr p1.al) fun w H2 f2 p2 => go st p1 p2 ⟨true, rfl, ?_⟩
                rw [if_pos rfl]
                exact h3.at (p1.same.trans p2.same) st (fun q' e' => by cases e') (fun c' p' e' => by cases e'; exact h) (by simp)
              | ok z =>
                rw [M.bind_ok]
                cases e2 : p' y.d z.d with
                | none => exact trivial
                | some pv2 =>
                  cases pv2 with
                  | new xs => exact trivial
                  | sc k2 =>
                    refine fun σ H Z F Q st h => h1 σ H Z F _ st fun v H1 f1 p1 => h2 σ H1 _ F _ (st.ext p1.same p1.fr p1.al) fun w H2 f2 p2 => go st p1 p2 ⟨true, rfl, ?_⟩
                    rw [if_pos rfl]
                    have st1 := st.ext p1.same p1.fr p1.al
                    refine h3 σ H2 _ F _ (st1.ext p2.same p2.fr p2.al) fun w' H3 f3 p3 => ?_
                    have k3 := PR.read2 st1 p2 p3
                    refine hp' _ _ _ e2 _ _ _ _ _ hid_sub k3.1 k3.2 (fun u hu => h u H3 [] ?_)
                    exact PR.sc (p1.same.trans (p2.same.trans p3.same)) hu
          | _ => exact trivial

/-! ### slices -/
def SndO (g : Gc) (t : TO) (W : WX) (ρ : En) : M (Option Int) → Prop
  | .stuck => True
  | .ok i => ∀ σ H Z F Q, StE g Z F ρ σ H → (∀ H', Same H H' → Q i H') → t σ H Q
  | .rai c p => ∀ σ H Z F Q, StE g Z F ρ σ H → (∀ d H', Same H H' → ExcOk g H H' p d → W (.ref (g.cls c)) d σ H') → t σ H Q
theorem snd_noPart : SndO g tNoPart W ρ (.ok none) := fun σ H Z F Q st h => h H (Same.refl _)
def partV (m : M R) : M (Option Int) := m >>= fun r => match r.d with
  | .int i => .ok (some i)
  | _ => .stuck
theorem snd_part {te : TE} {m : M R} (h1 : SndE g te W ρ m) : SndO g (tPart te) W ρ (partV m) := by
  unfold partV
  cases m with
  | stuck => exact trivial
  | rai c p => exact fun σ H Z F Q st h => h1 σ H Z F _ st h
  | ok r =>
    rw [M.bind_ok]
    cases e : r.d with
    | int i =>
      refine fun σ H Z F Q st h => h1 σ H Z F _ st fun v H1 f1 p1 => ⟨i, ?_, h H1 p1.same⟩
      have k := p1.read st
      rw [e] at k
      simpa only [Rep] using k
    | _ => exact trivial
def cutG {α : Type} (xs : List α) (lo hi : Option Int) : List α := (xs.drop (HT.sIx xs.length 0 lo)).take (HT.sIx xs.length xs.length hi - HT.sIx xs.length 0 lo)
def pSl : D → Option Int → Option Int → Option PV
  | .lst ds, lo, hi => some (.new (cutG ds lo hi))
  | .scr ns, lo, hi => some (.new ((cutG ns lo hi).map .int))
  | .str z, lo, hi => if z.length ≤ sizeLine then some (.sc (.str (cutS z lo hi))) else none
  | _, _, _ => none
def rSl (K : PySem.W.Frag) : V → Option Int → Option Int → Hp → VK → Prop := fun x lo hi H Q => rSlL K x lo hi H Q ∨ rSlS x lo hi H Q
theorem sl_rule {X : Cx} : SlR X (rSl X.K) := sl_list.or sl_str
def evSl (m : M R) (l u : M (Option Int)) : M R := m >>= fun r => l >>= fun lo => u >>= fun hi => match pSl r.d lo hi with
  | some pv => .ok (mkPV r.clean pv)
  | none => .stuck
theorem snd_slice {te : TE} {tl th : TO} {m : M R} {l u : M (Option Int)} (h1 : SndE g te W ρ m) (h2 : SndO g tl W ρ l) (h3 : SndO g th W ρ u) : SndE g (tSl (rSl g.K) te tl th) W ρ (evSl m l u) := by
  unfold evSl
  cases m with
  | stuck => exact trivial
  | rai c p => exact fun σ H Z F Q st h => h1 σ H Z F _ st h
  | ok r =>
    rw [M.bind_ok]
    cases l with
    | stuck => exact trivial
    | rai c p => exact fun σ H Z F Q st h => h1 σ H Z F _ st fun v H1 f1 p1 => h2 σ H1 _ F _ (st.ext p1.same p1.fr p1.al) fun d H' s x => h d H' (p1.same.trans s) (x.pre p1.same)
    | ok lo =>
      rw [M.bind_ok]
      cases u with
      | stuck => exact trivial
      | rai c p => exact fun σ H Z F Q st h => h1 σ H Z F _ st fun v H1 f1 p1 => h2 σ H1 _ F _ (st.ext p1.same p1.fr p1.al) fun H2 s2 => h3 σ H2 _ F _ ((st.ext p1.same p1.fr p1.al).ext0 s2) fun d H' s x => h d H' (p1.same.trans (s2.trans s)) ((x.pre s2).pre p1.same)
      | ok hi =>
        rw [M.bind_ok]
        cases e : pSl r.d lo hi with
        | none => exact trivial
        | some pv =>
          refine fun σ H Z F Q st h => h1 σ H Z F _ st fun v H1 f1 p1 => h2 σ H1 _ F _ (st.ext p1.same p1.fr p1.al) fun H2 s2 => h3 σ H2 _ F _ ((st.ext p1.same p1.fr p1.al).ext0 s2) fun H3 s3 => ?_
          have s0 : Same H H3 := p1.same.trans (s2.trans s3)
          have k : Rep g (hid (seen r.clean Z F) H3) r.d v := Rep.mono (hid_mono (s2.trans s3) fun a u e z => z) _ _ (p1.read st)
          have post := PVPost.of (pv := pv) (c := r.clean) st s0 h
          generalize r.d = d at e k
          generalize r.clean = c at k post
          cases d <;> simp only [pSl, reduceCtorEq] at e
          · rename_i z
            split at e
            · rename_i hz
              cases e
              simp only [Rep] at k
              subst k
              exact .inr ⟨z, rfl, hz, pv_str post⟩
            · cases e
          · cases e
            simp only [Rep] at k
            obtain ⟨a, vs, rfl, q, rr⟩ := k
            refine .inl ⟨a, vs, rfl, SqL.of (hid_sub _ _ q), fun p hp => post (cutV vs lo hi) ?_ p hp⟩
            unfold cutV cutG
            rw [Reps.len rr]
            exact Reps.take _ (Reps.drop _ rr)
          · rename_i ns
            cases e
            simp only [Rep] at k
            obtain ⟨a, rfl, q⟩ := k
            refine .inl ⟨a, _, rfl, SqL_mono q hid_sub, fun p hp => post _ ?_ p hp⟩
            have : cutV (List.map V.int ns) lo hi = (cutG ns lo hi).map V.int := by
              unfold cutV cutG
              rw [List.length_map, List.map_take, List.map_drop]
            rw [this]
            exact Reps.scr

/-! ### isinstance -/
def tyN : D → Option String
  | .non => some "NoneType"
  | .bl _ => some "bool"
  | .int _ => some "int"
  | .str _ => some "str"
  | .tup _ => some "tuple"
  | .lst _ => some "list"
  | .scr _ => some "list"
  | .ins _ _ => none
theorem tyx_of {S : Hp} {d : D} {v : V} {n : String} (e : tyN d = some n) (s : Same S H) (h : Rep g S d v) : TyX g.K H v (.type n) := by
  cases d <;> simp only [tyN, Option.some.injEq, reduceCtorEq] at e <;> subst e <;> simp only [Rep] at h
  · subst h; exact .base .non
  · subst h; exact .base (.bl _)
  · subst h; exact .base (.int _)
  · subst h; exact .base (.str _)
  · obtain ⟨a, vs, rfl, q, _⟩ := h
    rcases q with (q | ⟨o, q⟩) | ⟨o, its, n, q, c, _⟩
    · exact .base (.tup (s _ _ q))
    · exact .fTuple (s _ _ q)
    · exact .kTuple q c
  · obtain ⟨a, vs, rfl, q, _⟩ := h
    exact .base (.lst (s _ _ q))
  · obtain ⟨a, rfl, q⟩ := h
    rcases q with (q | ⟨o, q⟩) | ⟨o, its, n, q, c, _⟩
    · exact .base (.lst (s _ _ q))
    · exact .base (.frz (s _ _ q))
    · exact .kList q c
/-- isinstance against a built-in type -/
def pIsT (t : String) (d : D) : Option Bool := (tyN d).bind fun n => kitB n t
def evIsT (t : String) (m : M R) : M R := m >>= fun r => match pIsT t r.d with
  | some b => .ok (.val true (.bl b))
  | none => .stuck
theorem snd_isT {t : String} {te : TE} {m : M R} (h1 : SndE g te W ρ m) : SndE g (tCB (rIsi g.K) (tCons te (tCons (tC (.ty t)) tNil))) W ρ (evIsT t m) := by
  unfold evIsT
  cases m with
  | stuck => exact trivial
  | rai c p => exact fun σ H Z F Q st h => h1 σ H Z F _ st h
  | ok r =>
    rw [M.bind_ok]
    cases e : pIsT t r.d with
    | none => exact trivial
    | some b =>
      refine fun σ H Z F Q st h => h1 σ H Z F _ st fun v H1 f1 p1 => ?_
      unfold pIsT at e
      obtain ⟨n, e1, e2⟩ := Option.bind_eq_some_iff.mp e
      exact ⟨v, .ty t, .type n, .type t, b, rfl, .ty t, tyx_of e1 hid_sub (p1.read st), kit_ty e2, h _ _ [] (PR.bl p1.same)⟩

/-! ### calls -/
def mkOwn : O → R
  | .sh d => .val true d
  | o => .own o
mutual
/-- what is not owned holds no list -/
def O.lf : O → Bool
  | .sh d => d.flat
  | .lst os => olf os
  | .tup os => olf os
  | .ins _ os => olf os
def olf : List O → Bool
  | [] => true
  | o :: os => o.lf && olf os
end
mutual
theorem ORep.flat {S S' : Hp} (s : SameT S S') : ∀ (o : O) (v : V) (f : List Addr), o.lf = true → ORep g S H o v f → ORep g S' H o v f
  | .sh d, v, f, l, h => by
    simp only [ORep] at h ⊢
    exact ⟨h.1, Rep.flat s d v (by simpa only [O.lf] using l) h.2⟩
  | .lst os, v, f, l, h => by
    simp only [ORep] at h ⊢
    obtain ⟨a, vs, f', e, q, e2, r⟩ := h
    exact ⟨a, vs, f', e, q, e2, OReps.flat s os vs f' (by simpa only [O.lf] using l) r⟩
  | .tup os, v, f, l, h => by
    simp only [ORep] at h ⊢
    obtain ⟨a, vs, e, q, r⟩ := h
    exact ⟨a, vs, e, SqT_flat q s, OReps.flat s os vs f (by simpa only [O.lf] using l) r⟩
  | .ins c os, v, f, l, h => by
    simp only [ORep] at h ⊢
    obtain ⟨a, dx, fs, f', e, q, n, e2, r⟩ := h
    exact ⟨a, dx, fs, f', e, q, n, e2, OReps.flat s os _ f' (by simpa only [O.lf] using l) r⟩
theorem OReps.flat {S S' : Hp} (s : SameT S S') : ∀ (os : List O) (vs : List V) (f : List Addr), olf os = true → OReps g S H os vs f → OReps g S' H os vs f
  | [], vs, f, l, h => by simp only [OReps] at h ⊢; exact h
  | o :: os, vs, f, l, h => by
    simp only [OReps] at h ⊢
    simp only [olf, Bool.and_eq_true] at l
    obtain ⟨v, r, f1, f2, e, e2, h1, h2⟩ := h
    exact ⟨v, r, f1, f2, e, e2, ORep.flat s o v f1 l.1 h1, OReps.flat s os r f2 l.2 h2⟩
end
def callR (c : Bool) (o : O) : R := if (c || o.lf) = true then mkOwn o else .val false o.d
theorem PR.own {o : O} {v : V} {f : List Addr} (s : Same H H') (nd : f.Nodup) (fr : ∀ a ∈ f, H a = none) (h : ORep g (hid (fun a => a ∈ f ∨ a ∈ F ∨ Z a) H') H' o v f) : ∃ f', PR g Z F H (mkOwn o) v H' f' := by
  cases o with
  | sh d =>
    simp only [ORep] at h
    obtain ⟨rfl, h⟩ := h
    exact ⟨[], s, nd, fr, rfl, h⟩
  | lst os => exact ⟨f, s, nd, fr, h⟩
  | tup os => exact ⟨f, s, nd, fr, h⟩
  | ins c os => exact ⟨f, s, nd, fr, h⟩
/-- THE PROMISE of a def: it hands back what its function says -/
def spG (g : Gc) (n : Nat) (G : List D → M O) : Sp := fun vs H Q E => ∃ (Z : Addr → Prop) (ds : List D), ds.length = n ∧ (∀ a, Z a → H a ≠ none) ∧ Reps g (hid Z H) ds vs ∧ match G ds with
  | .stuck => False
  | .ok o => ∀ v H' f, Same H H' → f.Nodup → (∀ a ∈ f, H a = none) → ORep g (hid (fun a => a ∈ f ∨ Z a) H') H' o v f → Q v H'
  | .rai c p => ∀ d H', Same H H' → ExcOk g H H' p d → E (.ref (g.cls c)) d H'
def evCall (n : Nat) (G : List D → M O) (m : M (List R)) : M R := m >>= fun rs => if rs.length = n then G (rds rs) >>= fun o => .ok (callR (cleans rs) o) else .stuck
theorem seen_al (st : StE g Z F ρ σ H) (s : Same H H') {c : Bool} : ∀ a, seen c Z F a → H' a ≠ none := fun a z e => by
  rcases z with ⟨_, z⟩ | z
  · obtain ⟨u, k⟩ := ((st.soft a z).same s).some
    rw [e] at k; cases k
  · exact st.zd a z (s.free e)
theorem snd_call {n : Nat} {G : List D → M O} {ta : TA} {m : M (List R)} (h1 : SndA g ta W ρ m) : SndE g (tCallS (spG g n G) (WE W) ta) W ρ (evCall n G m) := by
  unfold evCall
  cases m with
  | stuck => exact trivial
  | rai c p => exact fun σ H Z F Q st h => h1 σ H Z F _ st h
  | ok rs =>
    rw [M.bind_ok]
    split
    · rename_i hn
      cases e : G (rds rs) with
      | stuck => exact trivial
      | rai c p =>
        refine fun σ H Z F Q st h => h1 σ H Z F _ st fun vs H1 f p1 => ⟨seen (cleans rs) Z F, rds rs, by simpa [rds] using hn, seen_al st p1.same, p1.read st, ?_⟩
        rw [e]
        exact fun d H' s x => h d H' (p1.same.trans s) (x.pre p1.same)
      | ok o =>
        rw [M.bind_ok]
        refine fun σ H Z F Q st h => h1 σ H Z F _ st fun vs H1 f1 p1 => ⟨seen (cleans rs) Z F, rds rs, by simpa [rds] using hn, seen_al st p1.same, p1.read st, ?_⟩
        rw [e]
        intro v H' f s nd fr k
        have s0 := p1.same.trans s
        have fr0 : ∀ a ∈ f, H a = none := fun a ha => p1.same.free (fr a ha)
        by_cases hc : (cleans rs || o.lf) = true
        · unfold callR at h
          rw [if_pos hc] at h
          have k2 : ORep g (hid (fun a => a ∈ f ∨ a ∈ F ∨ Z a) H') H' o v f := by
            cases ec : cleans rs with
            | true =>
              rw [ec] at k
              refine ORep.mono (hid_mono (Same.refl _) fun a u e z => ?_) o v f (fun a _ u e => e) k
              rcases z with z | z | z
              · exact .inl z
              · exact .inr (.inl ⟨rfl, z⟩)
              · exact .inr (.inr z)
            | false =>
              rw [ec] at k hc
              refine ORep.flat (hid_leT fun a u n e => ⟨e, fun z => ?_⟩) o v f (by simpa using hc) k
              rcases z with z | z | z
              · exact absurd (.inl z) n
              · exact (st.soft a z).same s0
              · exact absurd (.inr (.inr z)) n
          obtain ⟨f', p⟩ := PR.own s0 nd fr0 k2
          exact h v H' f' p
        · unfold callR at h
          rw [if_neg hc] at h
          have ec : cleans rs = false := by
            cases e : cleans rs with
            | false => rfl
            | true => rw [e] at hc; exact absurd rfl hc
          rw [ec] at k
          refine h v H' [] ⟨s0, List.nodup_nil, fun _ z => (nomatch z), rfl, ?_⟩
          show Rep g (hid _ H') o.d v
          have base : ∀ a ∈ f, ¬ Z a := fun a ha z => st.zd a z (fr0 a ha)
          refine ORep.view (hid_mono (Same.refl _) fun a u e z => ?_) o v f (fun a ha u e => hid_some.mpr (And.intro (fun z => ?_) e)) k
          · rcases z with z | z
            · cases z
            · exact .inr (.inr z)
          · rcases z with z | z
            · cases z
            · exact base a ha z
    · exact trivial

/-! ### fields -/
def fldR (r : R) (k : Nat) : Option R := match r with
  | .bor (.ins _ os) => os[k]?.map bo
  | r => match r.d with
    | .ins _ ds => ds[k]?.map (.val r.clean)
    | _ => none
/-- the class of what has the field -/
def insC : D → Option Nat
  | .ins c _ => some c
  | _ => none
structure FldOk (g : Gc) (c : Nat) (k : Nat) (f : Str) : Prop where
  cl : Cls g.K (g.cls c)
  na : NoAttr g.K (g.cls c) f
  nd : (g.flds c).Nodup
  at_ : (g.flds c)[k]? = some f
theorem lookup_at : ∀ {fs : List (Str × V)} {ks : List Str} {k : Nat} {f : Str} {v : V}, fs.map (·.1) = ks → ks.Nodup → ks[k]? = some f → (fs.map (·.2))[k]? = some v → fs.lookup f = some v
  | [], ks, k, f, v, e, nd, h1, h2 => by simp at h2
  | (x, y) :: fs, ks, 0, f, v, e, nd, h1, h2 => by
    subst e
    have e1 : x = f := by simpa using h1
    have e2 : y = v := by simpa using h2
    subst e1; subst e2
    simp [List.lookup]
  | (x, y) :: fs, ks, k + 1, f, v, e, nd, h1, h2 => by
    subst e
    have h1' : (fs.map (·.1))[k]? = some f := by simpa using h1
    have h2' : (fs.map (·.2))[k]? = some v := by simpa using h2
    have nd' := List.nodup_cons.mp nd
    have ne : f ≠ x := fun z => nd'.1 (by rw [← z]; exact List.mem_of_getElem? h1')
    have ih := lookup_at rfl nd'.2 h1' h2'
    rw [List.lookup_cons]
    have : (f == x) = false := by simpa using ne
    rw [this]
    exact ih
def evFld (c : Nat) (k : Nat) (m : M R) : M R := m >>= fun r => if insC r.d = some c then M.of (fldR r k) else .stuck
theorem snd_fld {c k : Nat} {f : Str} (F0 : FldOk g c k f) {te : TE} {m : M R} (h1 : SndE g te W ρ m) : SndE g (tFld g.K te f) W ρ (evFld c k m) := by
  unfold evFld
  cases m with
  | stuck => exact trivial
  | rai c p => exact fun σ H Z F Q st h => h1 σ H Z F _ st h
  | ok r =>
    rw [M.bind_ok]
    split
    · rename_i hc
      cases e : fldR r k with
      | none => exact trivial
      | some r' =>
        refine fun σ H Z F Q st h => h1 σ H Z F _ st fun v H1 f1 p1 => ?_
        have gen : ∀ ds, r.d = .ins c ds → ds[k]?.map (R.val r.clean) = some r' → ∃ a C dx fs w, v = .ref a ∧ H1 a = some (.ins C dx fs) ∧ Cls g.K C ∧ NoAttr g.K C f ∧ fs.lookup f = some w ∧ Q w H1 := fun ds ed e => by
          have k1 := p1.read st
          rw [ed] at k1
          simp only [Rep] at k1
          obtain ⟨a, dx, fs, rfl, q, n, rr⟩ := k1
          obtain ⟨x, e1, rfl⟩ := Option.map_eq_some_iff.mp e
          obtain ⟨w, e2, k2⟩ := Reps.get rr e1
          exact ⟨a, _, dx, fs, w, rfl, hid_sub _ _ q, F0.cl, F0.na, lookup_at n F0.nd F0.at_ e2, h w H1 [] (PR.part p1.same k2)⟩
        unfold fldR at e
        split at e
        · rename_i c' os
          have ec : c' = c := by simpa [R.d, O.d, insC] using hc
          subst ec
          obtain ⟨_, f', kk, hs⟩ := p1.rr
          simp only [ORep] at kk
          obtain ⟨a, dx, fs, f2, rfl, q, n, rfl, rr⟩ := kk
          obtain ⟨x, e1, rfl⟩ := Option.map_eq_some_iff.mp e
          obtain ⟨w, f3, e2, k2, hs2⟩ := OReps.get rr e1
          exact ⟨a, _, dx, fs, w, rfl, q, F0.cl, F0.na, lookup_at n F0.nd F0.at_ e2, h w H1 [] (PR.bo p1.same (ORep.mono (hid_mono (Same.refl _) fun a u e z => .inr z) _ _ _ (fun a _ u e => e) k2) fun a ha => hs a (List.mem_cons_of_mem _ (hs2 a ha)))⟩
        · split at e
          · rename_i c' ds ed
            rw [ed] at hc
            have ec : c' = c := by simpa [insC] using hc
            subst ec
            exact gen ds ed e
          · cases e
    · exact trivial
end TL

namespace TL
open PySem PySem.Spec L2
variable {g : Gc} {Z : Addr → Prop} {F : List Addr} {ρ : En} {σ : Sg} {H H' H1 H2 : Hp} {W : WX}

/-! ### what is walked -/
def iAny (K : PySem.W.Frag) (tl : TE) : TI := fun σ H R => tl σ H fun x H1 => (∃ a xs, x = .ref a ∧ SqL K H1 a xs ∧ R (Itl K a) H1) ∨ (∃ a xs, x = .ref a ∧ SqT K H1 a xs ∧ R (Itt K a) H1) ∨ ∃ z, x = .str z ∧ R (Its z) H1
theorem pi_any {X : Cx} {tg l : Expr} {tl : TE} (hl : PE X l tl) : PI X tg l (iAny X.K tl) := by
  refine ⟨fun pins s σ H R I h => ?_⟩
  refine thn (hl.run pins s σ H _ I h) fun v s1 ⟨x, H1, I1, r1, q1⟩ => ?_
  rcases q1 with ⟨a, xs, e, hq, q⟩ | ⟨a, xs, e, hq, q⟩ | ⟨z, e, q⟩
  · subst e
    cases r1
    obtain ⟨its, rv, p, hz⟩ := I1.list hq
    refine wpAny_pyIter_list p.isList ?_
    refine ⟨s1.heap.objs.size, [s1.heap.objs.size], _, _, H1, rfl, I1.kept (t' := s1.toks) fun b o e => Heap.get?_push_of_some _ e, turn_list a _, ⟨_, Heap.get?_push_size _ rfl, rfl, rfl⟩, fun b hb => ?_, q⟩
    have e : b = s1.heap.objs.size := by simpa using hb
    subst e
    exact I1.fpOk (Nat.le_refl _) (I1.hok.fresh (Nat.le_refl _))
  · subst e
    cases r1
    obtain ⟨its, rv, p, hz⟩ := I1.tuple hq
    refine wpAny_pyIter_tuple (show s1.heap.IsTuple a its.toArray from p) ?_
    refine ⟨s1.heap.objs.size, [s1.heap.objs.size], _, _, H1, rfl, I1.kept (t' := s1.toks) fun b o e => Heap.get?_push_of_some _ e, turn_tuple a _, ⟨_, Heap.get?_push_size _ rfl, rfl, rfl⟩, fun b hb => ?_, q⟩
    have e : b = s1.heap.objs.size := by simpa using hb
    subst e
    exact I1.fpOk (Nat.le_refl _) (I1.hok.fresh (Nat.le_refl _))
  · subst e
    obtain ⟨t, rfl⟩ := r1
    cases ha : z.cps.all (· < 128)
    · exact PySem.wpAny_pyIter_wide ha (pi_one (tk := s1.toks) I1 _ (turn_str _ z t "str_iterator" (.inr rfl)) ⟨_, Heap.get?_push_size _ rfl, rfl, rfl⟩ q)
    · exact PySem.wpAny_pyIter_ascii ha (pi_one (tk := s1.toks) I1 _ (turn_str _ z t "str_ascii_iterator" (.inl rfl)) ⟨_, Heap.get?_push_size _ rfl, rfl, rfl⟩ q)
def ItOk (g : Gc) (S0 : Hp) (J : It) (ds : List D) : Prop := ∀ H', Same S0 H' → ∀ i : Nat, (ds.length ≤ i → J.stop i H') ∧ ∀ d, ds[i]? = some d → J.go i H' ∧ ∀ x H3, J.yld i H' x H3 → H3 = H' ∧ Rep g S0 d x
theorem it_list {S0 : Hp} {a : Addr} {vs : List V} {ds : List D} (q : SqL g.K S0 a vs) (u : ∀ H', Same S0 H' → ∀ xs, SqL g.K H' a xs → xs = vs) (r : Reps g S0 ds vs) : ItOk g S0 (Itl g.K a) ds := fun H' s i => by
  refine ⟨fun hi => ⟨vs, SqL_mono q s, by rw [Reps.len r]; exact hi⟩, fun d hd => ?_⟩
  obtain ⟨v, e, k⟩ := Reps.get r hd
  refine ⟨⟨vs, v, SqL_mono q s, e⟩, fun x H3 y => ⟨y.1, ?_⟩⟩
  have := y.2 vs (SqL_mono q s)
  rw [e] at this
  cases this
  exact k
theorem it_list' {S0 : Hp} {a : Addr} {vs : List V} {ds : List D} (q : SqL g.K S0 a vs) (r : Reps g S0 ds vs) : ItOk g S0 (Itl g.K a) ds := fun H' s i => by
  refine ⟨fun hi => ⟨vs, SqL_mono q s, by rw [Reps.len r]; exact hi⟩, fun d hd => ?_⟩
  obtain ⟨v, e, k⟩ := Reps.get r hd
  refine ⟨⟨vs, v, SqL_mono q s, e⟩, fun x H3 y => ⟨y.1, ?_⟩⟩
  have := y.2 vs (SqL_mono q s)
  rw [e] at this
  cases this
  exact k
theorem it_tup {S0 : Hp} {a : Addr} {vs : List V} {ds : List D} (q : SqT g.K S0 a vs) (r : Reps g S0 ds vs) : ItOk g S0 (Itt g.K a) ds := fun H' s i => by
  refine ⟨fun hi => ⟨vs, SqT_mono q s, by rw [Reps.len r]; exact hi⟩, fun d hd => ?_⟩
  obtain ⟨v, e, k⟩ := Reps.get r hd
  refine ⟨⟨vs, v, SqT_mono q s, e⟩, fun x H3 y => ⟨y.1, ?_⟩⟩
  have := y.2 vs (SqT_mono q s)
  rw [e] at this
  cases this
  exact k
def chars (z : Str) : List D := z.cps.toList.map fun c => .str ⟨#[c]⟩
theorem it_str {S0 : Hp} {z : Str} : ItOk g S0 (Its z) (chars z) := fun H' s i => by
  refine ⟨fun hi => by show z.cps.size ≤ i; simpa [chars] using hi, fun d hd => ?_⟩
  unfold chars at hd
  rw [List.getElem?_map] at hd
  obtain ⟨c, e, rfl⟩ := Option.map_eq_some_iff.mp hd
  have e' : z.cps[i]? = some c := by simpa using e
  refine ⟨(Array.getElem?_eq_some_iff.mp e').1, fun x H3 y => ⟨y.1, ?_⟩⟩
  obtain ⟨_, c', e2, rfl⟩ := y
  rw [e'] at e2
  cases e2
  simp only [Rep]
def rngD (lo : Int) (n : Nat) : List D := (List.range n).map fun (k : Nat) => .int (lo + (k : Int))
theorem it_rng {S0 : Hp} {lo : Int} {n : Nat} : ItOk g S0 (Itr lo n) (rngD lo n) := fun H' s i => by
  refine ⟨fun hi => by show n ≤ i; simpa [rngD] using hi, fun d hd => ?_⟩
  unfold rngD at hd
  rw [List.getElem?_map] at hd
  obtain ⟨c, e, rfl⟩ := Option.map_eq_some_iff.mp hd
  obtain ⟨h1, h2⟩ := List.getElem?_eq_some_iff.mp e
  have h3 : i < n := by simpa using h1
  have h4 : i = c := by simpa using h2
  subst h4
  refine ⟨h3, fun x H3 y => ⟨y.1, ?_⟩⟩
  simp only [Rep]
  exact y.2
def SndI (g : Gc) (wi : TI) (W : WX) (ρ : En) : M (Bool × List D) → Prop
  | .stuck => True
  | .ok (c, ds) => ∀ σ H Z F R, StE g Z F ρ σ H → (∀ J H', Same H H' → ItOk g (hid (seen c Z F) H') J ds → R J H') → wi σ H R
  | .rai c p => ∀ σ H Z F (R : It → Hp → Prop), StE g Z F ρ σ H → (∀ d H', Same H H' → ExcOk g H H' p d → W (.ref (g.cls c)) d σ H') → wi σ H R
def itemsD : D → Option (List D)
  | .lst ds => some ds
  | .tup ds => some ds
  | .scr ns => some (ns.map .int)
  | .str z => some (chars z)
  | _ => none
def evItems (m : M R) : M (Bool × List D) := m >>= fun r => match itemsD r.d with
  | some ds => .ok (r.clean, ds)
  | none => .stuck
theorem snd_items {te : TE} {m : M R} (h1 : SndE g te W ρ m) : SndI g (iAny g.K te) W ρ (evItems m) := by
  unfold evItems
  cases m with
  | stuck => exact trivial
  | rai c p => exact fun σ H Z F Q st h => h1 σ H Z F _ st h
  | ok r =>
    rw [M.bind_ok]
    cases e : itemsD r.d with
    | none => exact trivial
    | some ds =>
      refine fun σ H Z F R st h => h1 σ H Z F _ st fun v H1 f p => ?_
      have k := p.read st
      have post := h
      generalize r.d = d at e k
      generalize r.clean = c at k h
      cases d <;> simp only [itemsD, Option.some.injEq, reduceCtorEq] at e <;> subst e <;> simp only [Rep] at k
      · subst k
        exact .inr (.inr ⟨_, rfl, h _ _ p.same it_str⟩)
      · obtain ⟨a, vs, rfl, q, rr⟩ := k
        exact .inr (.inl ⟨a, vs, rfl, SqT_mono q hid_sub, h _ _ p.same (it_tup q rr)⟩)
      · obtain ⟨a, vs, rfl, q, rr⟩ := k
        exact .inl ⟨a, vs, rfl, SqL.of (hid_sub _ _ q), h _ _ p.same (it_list' (SqL.of q) rr)⟩
      · obtain ⟨a, rfl, q⟩ := k
        exact .inl ⟨a, _, rfl, SqL_mono q hid_sub, h _ _ p.same (it_list' q Reps.scr)⟩
def rngOk (i : Int) : Bool := decide (-(2 ^ 62) ≤ i) && decide (i < 2 ^ 62)
def evRng1 (m : M (List R)) : M (Bool × List D) := m >>= fun rs => match rds rs with
  | [.int j] => if rngOk j = true then .ok (true, rngD 0 j.toNat) else .stuck
  | _ => .stuck
def evRng2 (m : M (List R)) : M (Bool × List D) := m >>= fun rs => match rds rs with
  | [.int i, .int j] => if (rngOk i && rngOk j) = true then .ok (true, rngD i (j - i).toNat) else .stuck
  | _ => .stuck
theorem snd_rng1 {ta : TA} {m : M (List R)} (h1 : SndA g ta W ρ m) : SndI g (iRng1 ta) W ρ (evRng1 m) := by
  unfold evRng1
  cases m with
  | stuck => exact trivial
  | rai c p => exact fun σ H Z F Q st h => h1 σ H Z F _ st h
  | ok rs =>
    rw [M.bind_ok]
    split
    · rename_i j e
      split
      · rename_i hj
        refine fun σ H Z F R st h => h1 σ H Z F _ st fun vs H1 f p => ?_
        have k := p.read st
        rw [e] at k
        obtain ⟨v, rfl, k1⟩ := reps1 k
        simp only [Rep] at k1
        subst k1
        unfold rngOk at hj
        rw [Bool.and_eq_true] at hj
        exact ⟨j, rfl, of_decide_eq_true hj.1, of_decide_eq_true hj.2, h _ _ p.same it_rng⟩
      · exact trivial
    · exact trivial
theorem snd_rng2 {ta : TA} {m : M (List R)} (h1 : SndA g ta W ρ m) : SndI g (iRng2 ta) W ρ (evRng2 m) := by
  unfold evRng2
  cases m with
  | stuck => exact trivial
  | rai c p => exact fun σ H Z F Q st h => h1 σ H Z F _ st h
  | ok rs =>
    rw [M.bind_ok]
    split
    · rename_i i j e
      split
      · rename_i hj
        refine fun σ H Z F R st h => h1 σ H Z F _ st fun vs H1 f p => ?_
        have k := p.read st
        rw [e] at k
        obtain ⟨v, w, rfl, k1, k2⟩ := reps2 k
        simp only [Rep] at k1 k2
        subst k1; subst k2
        unfold rngOk at hj
        simp only [Bool.and_eq_true] at hj
        exact ⟨i, j, rfl, ⟨of_decide_eq_true hj.1.1, of_decide_eq_true hj.1.2, of_decide_eq_true hj.2.1, of_decide_eq_true hj.2.2⟩, h _ _ p.same it_rng⟩
      · exact trivial
    · exact trivial

/-! ### targets -/
inductive Tg where
  | name (i : Nat) | tup (is : List Nat)
def Tg.slots : Tg → List Nat
  | .name i => [i]
  | .tup is => is
def setDs : List Nat → List D → En → Option En
  | [], [], ρ => some ρ
  | i :: is, d :: ds, ρ => if i < ρ.length then setDs is ds (ρ.set i (some (.sh d))) else none
  | _, _, _ => none
def bindD : Tg → D → En → Option En
  | .name i, d, ρ => setDs [i] [d] ρ
  | .tup is, .tup ds, ρ => setDs is ds ρ
  | .tup _, _, _ => none
/-- behind a target: what was owned is so still, or was dropped -/
def SndG (g : Gc) (gt : TG) (sl : List Nat) (b : D → En → Option En) : Prop := ∀ d ρ ρ', b d ρ = some ρ' → ∀ σ H Z F v Q, StE g Z F ρ σ H → Rep g (hid (fun a => a ∈ F ∨ Z a) H) d v →
  (∀ σ' F', (∀ a ∈ F', a ∈ F) → F'.Nodup → Slots g (hid (fun a => a ∈ F ∨ Z a) H) H ρ' σ' F' → σ'.length = σ.length → (∀ j, j ∉ sl → σ'[j]? = σ[j]?) → Q σ' H) → gt v σ H Q
def gNames : List Nat → TGs
  | [] => gNil
  | i :: is => gCons (gName i) (gNames is)
theorem snd_names {S : Hp} : ∀ (is : List Nat) (ds : List D) (ρ ρ' : En) (σ : Sg) (F : List Addr) (vs : List V) (Q : Sg → Hp → Prop), setDs is ds ρ = some ρ' → F.Nodup → Slots g S H ρ σ F → Reps g S ds vs →
    (∀ σ' F', (∀ a ∈ F', a ∈ F) → F'.Nodup → Slots g S H ρ' σ' F' → σ'.length = σ.length → (∀ j, j ∉ is → σ'[j]? = σ[j]?) → Q σ' H) → gNames is vs σ H Q
  | [], ds, ρ, ρ', σ, F, vs, Q, e, nd, sl, r, h => by
    cases ds with
    | cons d ds => simp [setDs] at e
    | nil =>
      simp only [setDs, Option.some.injEq] at e
      subst e
      simp only [Reps] at r
      exact ⟨r, h σ F (fun _ z => z) nd sl rfl fun _ _ => rfl⟩
  | i :: is, ds, ρ, ρ', σ, F, vs, Q, e, nd, sl, r, h => by
    cases ds with
    | nil => simp [setDs] at e
    | cons d ds =>
      simp only [setDs] at e
      split at e
      · rename_i hi
        simp only [Reps] at r
        obtain ⟨v, w, rfl, r1, r2⟩ := r
        refine ⟨v, w, rfl, ?_⟩
        have ho : ORep g S H (.sh d) v [] := by
          simp only [ORep]
          exact ⟨trivial, r1⟩
        obtain ⟨F1, s1, hs1, nd1⟩ := Slots.set ho ρ σ F i sl hi
        refine snd_names is ds _ ρ' _ F1 w Q e (nd1 (by simpa using nd)) s1 r2 fun σ' F' a b c d' k => h σ' F' (fun x hx => (hs1 x (a x hx)).elim (fun z => nomatch z) id) b c (by rw [d', List.length_set]) fun j hj => ?_
        rw [List.mem_cons, not_or] at hj
        rw [k j hj.2, List.getElem?_set_ne (Ne.symm hj.1)]
      · cases e
theorem snd_gName (i : Nat) : SndG g (gName i) (Tg.name i).slots (bindD (.name i)) := fun d ρ ρ' e σ H Z F v Q st r h => by
  have k := snd_names (S := hid (fun a => a ∈ F ∨ Z a) H) (H := H) [i] [d] ρ ρ' σ F [v] Q e st.nd st.sl (by simp only [Reps]; exact ⟨v, [], rfl, r, rfl⟩) h
  obtain ⟨v', w, e1, k⟩ := k
  cases e1
  exact k.2
theorem snd_gTup (is : List Nat) : SndG g (gTup g.K is.length (gNames is)) (Tg.tup is).slots (bindD (.tup is)) := fun d ρ ρ' e σ H Z F v Q st r h => by
  cases d <;> simp only [bindD, reduceCtorEq] at e
  rename_i ds
  simp only [Rep] at r
  obtain ⟨a, vs, rfl, q, rr⟩ := r
  have hl : ∀ (is : List Nat) (ds : List D) (ρ : En), setDs is ds ρ = some ρ' → ds.length = is.length := by
    intro is
    induction is with
    | nil => intro ds ρ e; cases ds with
      | nil => rfl
      | cons d ds => simp [setDs] at e
    | cons i is ih => intro ds ρ e; cases ds with
      | nil => simp [setDs] at e
      | cons d ds =>
        simp only [setDs] at e
        split at e
        · rw [List.length_cons, List.length_cons, ih ds _ e]
        · cases e
  exact ⟨a, vs, rfl, SqT_mono q hid_sub, by rw [Reps.len rr]; exact hl is ds ρ e, snd_names is ds ρ ρ' σ F vs Q e st.nd st.sl rr h⟩
end TL

namespace TL
open PySem PySem.Spec L2
variable {g : Gc} {Z : Addr → Prop} {F : List Addr} {ρ : En} {σ : Sg} {H H' H1 H2 : Hp} {W : WX}

/-! ### comprehensions -/
def wipeEn (ρ : En) : List Nat → En
  | [] => ρ
  | v :: vs => (wipeEn ρ vs).set v none
theorem wipe_get : ∀ (vs : List Nat) (σ : Sg) (j : Nat), (wipe σ vs)[j]? = if j ∈ vs then σ[j]?.map (fun _ => none) else σ[j]?
  | [], σ, j => by
    show σ[j]? = _
    rw [if_neg (by simp)]
  | v :: vs, σ, j => by
    unfold wipe
    rw [List.getElem?_set]
    by_cases h : v = j
    · subst h
      rw [if_pos rfl, if_pos List.mem_cons_self, wipe_length]
      by_cases hv : v < σ.length
      · rw [if_pos hv, List.getElem?_eq_getElem hv]
        rfl
      · rw [if_neg hv, List.getElem?_eq_none (by omega)]
        rfl
    · rw [if_neg h, wipe_get vs σ j]
      have : (j ∈ v :: vs) ↔ j ∈ vs := by simp [List.mem_cons, Ne.symm h]
      simp only [this]
theorem wipe_eq {σ σ2 : Sg} {vs : List Nat} (l : σ2.length = σ.length) (h : ∀ j, j ∉ vs → σ2[j]? = (wipe σ vs)[j]?) : wipe σ2 vs = wipe σ vs := by
  apply List.ext_getElem?
  intro j
  rw [wipe_get, wipe_get]
  by_cases hj : j ∈ vs
  · rw [if_pos hj, if_pos hj]
    by_cases hl : j < σ.length
    · rw [List.getElem?_eq_getElem hl, List.getElem?_eq_getElem (by omega)]
      rfl
    · rw [List.getElem?_eq_none (by omega), List.getElem?_eq_none (by omega)]
  · rw [if_neg hj, if_neg hj, h j hj, wipe_get, if_neg hj]
theorem wipeEn_some {ρ : En} : ∀ {vs : List Nat} {i : Nat} {o : O}, (wipeEn ρ vs)[i]? = some (some o) → i ∉ vs
  | [], i, o, h => by simp
  | v :: vs, i, o, h => by
    unfold wipeEn at h
    rw [List.getElem?_set] at h
    split at h
    · split at h <;> cases h
    · rename_i hv
      rw [List.mem_cons, not_or]
      exact ⟨fun z => hv z.symm, wipeEn_some h⟩
theorem slots_wipe {S : Hp} : ∀ (vs : List Nat) {F : List Addr}, Slots g S H ρ σ F → ∃ F', Slots g S H (wipeEn ρ vs) σ F' ∧ (∀ a ∈ F', a ∈ F) ∧ (F.Nodup → F'.Nodup)
  | [], F, h => ⟨F, h, fun _ z => z, fun z => z⟩
  | v :: vs, F, h => by
    obtain ⟨F1, h1, s1, n1⟩ := slots_wipe vs h
    obtain ⟨F2, h2, s2, n2⟩ := Slots.drop (i := v) _ σ F1 h1
    exact ⟨F2, h2, fun a ha => s1 a (s2 a ha), fun z => n2 (n1 z)⟩
/-- a state with some of the owned things hidden for good -/
theorem StE.of {S : Hp} {F' : List Addr} {ρ' : En} {σ' : Sg} (st : StE g Z F ρ σ H) (sub : ∀ a ∈ F', a ∈ F) (nd : F'.Nodup) (sl : Slots g (hid (fun a => a ∈ F ∨ Z a) H) H ρ' σ' F') : StE g (fun a => (a ∈ F ∧ a ∉ F') ∨ Z a) F' ρ' σ' H := by
  refine ⟨nd, fun a ha z => ?_, fun a z e => ?_, Slots.mono (hid_mono (Same.refl _) fun a u e z => ?_) ρ' σ' F' (fun a _ u e => e) sl⟩
  · rcases z with z | z
    · exact z.2 ha
    · exact st.dj a (sub a ha) z
  · rcases z with z | z
    · obtain ⟨u, k⟩ := (st.soft a z.1).some
      rw [e] at k; cases k
    · exact st.zd a z e
  · rcases z with z | z | z
    · exact .inl (sub a z)
    · exact .inl z.1
    · exact .inr z
theorem StE.wiped (vs : List Nat) (st : StE g Z F ρ σ H) : ∃ F', (∀ a ∈ F', a ∈ F) ∧ F'.Nodup ∧ Slots g (hid (fun a => a ∈ F ∨ Z a) H) H (wipeEn ρ vs) (wipe σ vs) F' := by
  obtain ⟨F', h, s, n⟩ := slots_wipe vs st.sl
  refine ⟨F', s, n st.nd, Slots.forget _ σ F' h (wipe_length σ vs) fun i v e => ?_⟩
  rw [wipe_get, if_neg (wipeEn_some e)]
def compL (bind : D → En → Option En) (cond : En → M Bool) (elt : En → M R) (ρ0 : En) : List D → M (List R)
  | [] => .ok []
  | d :: ds => match bind d ρ0 with
    | none => .stuck
    | some ρ1 => cond ρ1 >>= fun b => if b = true then elt ρ1 >>= fun r => compL bind cond elt ρ0 ds >>= fun rs => .ok (r :: rs) else compL bind cond elt ρ0 ds
theorem RR.mono2 {S S' SF SF' H H' : Hp} {F F' : List Addr} {r : R} {v : V} {f : List Addr} (s : Same S S') (sf : Same SF SF') (hF : ∀ a ∈ F, a ∈ F') (k1 : ∀ a ∈ f, ∀ u, H a = some u → H' a = some u) (k2 : ∀ a ∈ F, ∀ u, H a = some u → H' a = some u) (h : RR g S SF H F r v f) : RR g S' SF' H' F' r v f := by
  cases r with
  | val c d =>
    obtain ⟨e, h⟩ := h
    refine ⟨e, ?_⟩
    cases c with
    | true => exact Rep.mono s d v h
    | false => exact Rep.mono sf d v h
  | own o => exact ORep.mono s o v f k1 h
  | bor o =>
    obtain ⟨e, f', h, hs⟩ := h
    exact ⟨e, f', ORep.mono s o v f' (fun a ha u e => k2 a (hs a ha) u e) h, fun a ha => hF a (hs a ha)⟩
theorem RRs.mono2 {S S' SF SF' H H' : Hp} {F F' : List Addr} (s : Same S S') (sf : Same SF SF') (hF : ∀ a ∈ F, a ∈ F') (k2 : ∀ a ∈ F, ∀ u, H a = some u → H' a = some u) : ∀ {rs : List R} {vs : List V} {f : List Addr}, (∀ a ∈ f, ∀ u, H a = some u → H' a = some u) → RRs g S SF H F rs vs f → RRs g S' SF' H' F' rs vs f
  | [], _, _, _, h => h
  | r :: rs, _, _, k1, h => by
    obtain ⟨v, w, f1, f2, e, rfl, h1, h2⟩ := h
    exact ⟨v, w, f1, f2, e, rfl, h1.mono2 s sf hF (fun a ha => k1 a (List.mem_append_left _ ha)) k2, RRs.mono2 s sf hF k2 (fun a ha => k1 a (List.mem_append_right _ ha)) h2⟩
theorem RRs.snoc {S SF : Hp} {r : R} {v : V} {f2 : List Addr} (h2 : RR g S SF H F r v f2) : ∀ {rs : List R} {vs : List V} {f : List Addr}, RRs g S SF H F rs vs f → RRs g S SF H F (rs ++ [r]) (vs ++ [v]) (f ++ f2)
  | [], vs, f, h => by
    obtain ⟨rfl, rfl⟩ := h
    exact ⟨v, [], f2, [], rfl, by simp, h2, rfl, rfl⟩
  | q :: rs, vs, f, h => by
    obtain ⟨w, ws, f1, f3, rfl, rfl, k1, k2⟩ := h
    exact ⟨w, ws ++ [v], f1, f3 ++ f2, rfl, by rw [List.append_assoc], k1, RRs.snoc h2 k2⟩
abbrev W0 : WX := fun _ _ _ _ => False
theorem SndT.ok0 {tt : TT} {m : M Bool} {b : Bool} (h : SndT g tt W ρ m) (e : m = .ok b) : ∀ σ H Z F Q, StE g Z F ρ σ H → (∀ H', Same H H' → Q b H') → tt σ H Q := by
  subst e
  exact h
theorem SndE.ok0 {te : TE} {m : M R} {r : R} (h : SndE g te W ρ m) (e : m = .ok r) : ∀ σ H Z F Q, StE g Z F ρ σ H → (∀ v H' f, PR g Z F H r v H' f → Q v H') → te σ H Q := by
  subst e
  exact h
/-- the block's loop, from a state where all that it walks is seen -/
theorem comp_loop {gt : TG} {sl vs : List Nat} {bind : D → En → Option En} {tt : TT} {te : TE} {cond : En → M Bool} {elt : En → M R} (hg : SndG g gt sl bind) (hsl : ∀ j ∈ sl, j ∈ vs) (ht : ∀ ρ, SndT g tt W0 ρ (cond ρ)) (he : ∀ ρ, SndE g te W0 ρ (elt ρ))
    (st : StE g Z F ρ σ H) {J : It} {ds : List D} {rs : List R} (hl : ds.length ≤ sizeLine) (hJ : ItOk g (hid (fun a => a ∈ F ∨ Z a) H) J ds) (e : compL bind cond elt (wipeEn ρ vs) ds = .ok rs) {Q : VK} {L : Addr} (hL : H L = none)
    (h : ∀ H' acc f, Same H H' → H' L = some (.lst acc) → L ∉ f → f.Nodup → (∀ a ∈ f, H a = none) → RRs g (hid (fun a => a ∈ L :: f ∨ a ∈ F ∨ Z a) H') (hid (fun a => a ∈ L :: f ∨ Z a) H') H' F rs acc f → Q (.ref L) H') :
    ∃ W : Nat → Nat → Hp → Prop, (∃ m, W 0 m (upd H L (.lst []))) ∧ ∀ i m H, W i m H →
      (J.stop i H ∧ Q (.ref L) H) ∨ (J.go i H ∧ ∃ Nx : Hp → Prop, (∀ H', Nx H' → ∃ m', m' < m ∧ W (i + 1) m' H') ∧ ∀ x H', J.yld i H x H' → gt x (wipe σ vs) H' fun σ2 H2 => wipe σ2 vs = wipe σ vs ∧ tt σ2 H2 fun b H3 =>
        if b = true then te σ2 H3 fun y H4 => ∃ acc, H4 L = some (.lst acc) ∧ acc.length < sizeLine ∧ Nx (upd H4 L (.lst (acc ++ [y]))) else Nx H3) := by
  obtain ⟨Inv, hInv⟩ : ∃ Inv : Nat → Hp → Prop, Inv = fun i H' => ∃ acc f rd rr, rs = rd ++ rr ∧ rd.length ≤ i ∧ compL bind cond elt (wipeEn ρ vs) (ds.drop i) = .ok rr ∧ Same H H' ∧ H' L = some (.lst acc) ∧ L ∉ f ∧ f.Nodup ∧ (∀ a ∈ f, H a = none) ∧
    RRs g (hid (fun a => a ∈ L :: f ∨ a ∈ F ∨ Z a) H') (hid (fun a => a ∈ L :: f ∨ Z a) H') H' F rd acc f := ⟨_, rfl⟩
  have nF : L ∉ F := fun z => by
    obtain ⟨u, k⟩ := (st.soft L z).some
    rw [hL] at k; cases k
  have nZ : ¬ Z L := fun z => st.zd L z hL
  refine ⟨fun i m H' => m = ds.length - i ∧ i ≤ ds.length ∧ Inv i H', ⟨ds.length, by simp, Nat.zero_le _, ?_⟩, ?_⟩
  · rw [hInv]
    exact ⟨[], [], [], rs, rfl, Nat.le_refl _, e, upd_le hL, upd_same, by simp, List.nodup_nil, fun _ z => (nomatch z), rfl, rfl⟩
  · rintro i m H' ⟨rfl, hi, inv⟩
    rw [hInv] at inv
    obtain ⟨acc, f, rd, rr, e1, hrd, e2, s, hLl, nLf, nd, fr, k⟩ := inv
    have S0 : Same (hid (fun a => a ∈ F ∨ Z a) H) H' := hid_sub.trans s
    by_cases hlt : i < ds.length
    · refine .inr ?_
      have ed : ds[i]? = some ds[i] := List.getElem?_eq_getElem hlt
      obtain ⟨hgo, hy⟩ := (hJ H' S0 i).2 _ ed
      refine ⟨hgo, Inv (i + 1), fun H'' q => ⟨ds.length - (i + 1), by omega, rfl, hlt, q⟩, fun x H3 y => ?_⟩
      obtain ⟨rfl, hx⟩ := hy x H3 y
      rw [List.drop_eq_getElem_cons hlt] at e2
      simp only [compL] at e2
      cases eb : bind ds[i] (wipeEn ρ vs) with
      | none => rw [eb] at e2; cases e2
      | some ρ1 =>
        rw [eb] at e2
        simp only at e2
        have al : ∀ a ∈ L :: f, H3 a ≠ none := fun a ha z => by
          rcases List.mem_cons.mp ha with rfl | ha
          · rw [hLl] at z; cases z
          · obtain ⟨u, w⟩ := (RRs.soft k a ha).some
            rw [z] at w; cases w
        have fr' : ∀ a ∈ L :: f, H a = none := fun a ha => by
          rcases List.mem_cons.mp ha with rfl | ha
          · exact hL
          · exact fr a ha
        have st1 : StE g (fun a => a ∈ L :: f ∨ Z a) F ρ σ H3 := st.ext s fr' al
        obtain ⟨F1, sub1, nd1, sl1⟩ := st1.wiped vs
        have st2 := StE.of (S := H3) st1 sub1 nd1 sl1
        have hx2 : Rep g (hid (fun a => a ∈ F1 ∨ (a ∈ F ∧ a ∉ F1) ∨ a ∈ L :: f ∨ Z a) H3) ds[i] x := Rep.mono (hid_mono s fun a u e z => by
          rcases z with z | z | z | z
          · exact .inl (sub1 a z)
          · exact .inl z.1
          · rw [fr' a z] at e; cases e
          · exact .inr z) _ _ hx
        refine hg _ _ _ eb _ _ _ _ _ _ st2 hx2 fun σ2 F2 sub2 nd2 sl2 len2 oth2 => ⟨wipe_eq (by rw [len2, wipe_length]) fun j hj => oth2 j fun z => hj (hsl j z), ?_⟩
        have st3 := StE.of (S := H3) st2 sub2 nd2 sl2
        cases ec : cond ρ1 with
        | stuck => rw [ec] at e2; cases e2
        | rai c p => rw [ec] at e2; cases e2
        | ok b =>
          rw [ec, M.bind_ok] at e2
          refine (ht ρ1).ok0 ec _ _ _ _ _ st3 fun H4 s4 => ?_
          cases b with
          | false =>
            rw [if_neg (by decide)] at e2 ⊢
            rw [hInv]
            refine ⟨acc, f, rd, rr, e1, Nat.le_succ_of_le hrd, e2, s.trans s4, s4 _ _ hLl, nLf, nd, fr, k.mono (hid_mono s4 fun a u e z => z) (hid_mono s4 fun a u e z => z) s4⟩
          | true =>
            rw [if_pos rfl] at e2 ⊢
            cases ee : elt ρ1 with
            | stuck => rw [ee] at e2; cases e2
            | rai c p => rw [ee] at e2; cases e2
            | ok r =>
              rw [ee, M.bind_ok] at e2
              cases er : compL bind cond elt (wipeEn ρ vs) (ds.drop (i + 1)) with
              | stuck => rw [er] at e2; cases e2
              | rai c p => rw [er] at e2; cases e2
              | ok rr' =>
                rw [er, M.bind_ok] at e2
                cases e2
                refine (he ρ1).ok0 ee _ _ _ _ _ (st3.ext0 s4) fun y H5 f5 p5 => ?_
                have hL5 : H5 L = some (.lst acc) := p5.same _ _ (s4 _ _ hLl)
                have hlen : acc.length = rd.length := by
                  have := Reps.len (RRs.read st s fr' k (fun a ha => List.mem_cons_of_mem _ ha))
                  simpa [rds] using this
                refine ⟨acc, hL5, by omega, ?_⟩
                rw [hInv]
                have sAll : Same H H5 := s.trans (s4.trans p5.same)
                have f5fr : ∀ a ∈ f5, H3 a = none := fun a ha => s4.free (p5.fr a ha)
                have L5 : L ∉ f5 := fun z => by
                  have := f5fr L z
                  rw [hLl] at this; cases this
                have up : ∀ a u, a ≠ L → H5 a = some u → upd H5 L (.lst (acc ++ [y])) a = some u := fun a u n e => by rw [upd_ne n]; exact e
                have Fne : ∀ a ∈ F, a ≠ L := fun a ha z => nF (z ▸ ha)
                refine ⟨acc ++ [y], f ++ f5, rd ++ [r], rr', by rw [e1, List.append_assoc]; rfl, by rw [List.length_append, List.length_singleton]; omega, er, fun b u e => ?_, upd_same, fun z => (List.mem_append.mp z).elim nLf L5, ?_, fun a ha => ?_, ?_⟩
                · have : b ≠ L := fun z => by rw [z, hL] at e; cases e
                  exact up b u this (sAll b u e)
                · exact nodup_fresh nd p5.nd (H := H3) (fun a ha => al a (List.mem_cons_of_mem _ ha)) f5fr
                · rcases List.mem_append.mp ha with z | z
                  · exact fr a z
                  · exact s.free (f5fr a z)
                · refine RRs.snoc ?_ ?_
                  · refine p5.rr.mono2 (hid_le fun a u n e => ?_) (hid_le fun a u n e => ?_) (fun a ha => sub1 a (sub2 a ha)) (fun a ha u e => up a u (fun z => L5 (z ▸ ha)) e) (fun a ha u e => up a u (Fne a (sub1 a (sub2 a ha))) e)
                    · have hne : a ≠ L := fun z => n (.inr (.inr (.inr (.inr (.inl (by rw [z]; exact List.mem_cons_self))))))
                      refine ⟨fun z => n ?_, up a u hne e⟩
                      rcases z with z | z | z
                      · rcases List.mem_cons.mp z with z | z
                        · exact absurd z hne
                        · rcases List.mem_append.mp z with z | z
                          · exact .inr (.inr (.inr (.inr (.inl (List.mem_cons_of_mem _ z)))))
                          · exact .inl z
                      · by_cases h2 : a ∈ F2
                        · exact .inr (.inl h2)
                        · by_cases h1 : a ∈ F1
                          · exact .inr (.inr (.inl ⟨h1, h2⟩))
                          · exact .inr (.inr (.inr (.inl ⟨z, h1⟩)))
                      · exact .inr (.inr (.inr (.inr (.inr z))))
                    · have hne : a ≠ L := fun z => n (.inr (.inr (.inr (.inl (by rw [z]; exact List.mem_cons_self)))))
                      refine ⟨fun z => n ?_, up a u hne e⟩
                      rcases z with z | z
                      · rcases List.mem_cons.mp z with z | z
                        · exact absurd z hne
                        · rcases List.mem_append.mp z with z | z
                          · exact .inr (.inr (.inr (.inl (List.mem_cons_of_mem _ z))))
                          · exact .inl z
                      · exact .inr (.inr (.inr (.inr z)))
                  · have s35 : Same H3 H5 := s4.trans p5.same
                    refine k.mono2 (hid_le fun a u n e => ?_) (hid_le fun a u n e => ?_) (fun _ z => z) (fun a ha u e => up a u (Fne a ha) (s35 a u e)) (fun a ha u e => up a u (fun z => nLf (z ▸ ha)) (s35 a u e))
                    · have hne : a ≠ L := fun z => n (.inl (by rw [z]; exact List.mem_cons_self))
                      refine ⟨fun z => n ?_, up a u hne (s35 a u e)⟩
                      rcases z with z | z
                      · rcases List.mem_cons.mp z with z | z
                        · exact absurd z hne
                        · rcases List.mem_append.mp z with z | z
                          · exact .inl (List.mem_cons_of_mem _ z)
                          · rw [f5fr a z] at e; cases e
                      · exact .inr z
                    · have hne : a ≠ L := fun z => n (.inl (by rw [z]; exact List.mem_cons_self))
                      refine ⟨fun z => n ?_, up a u hne (s35 a u e)⟩
                      rcases z with z | z
                      · rcases List.mem_cons.mp z with z | z
                        · exact absurd z hne
                        · rcases List.mem_append.mp z with z | z
                          · exact .inl (List.mem_cons_of_mem _ z)
                          · rw [f5fr a z] at e; cases e
                      · exact .inr z
    · have ei : i = ds.length := by omega
      refine .inl ⟨(hJ H' S0 i).1 (by omega), ?_⟩
      rw [ei, List.drop_length] at e2
      cases e2
      rw [List.append_nil] at e1
      subst e1
      exact h H' acc f s hLl nLf nd fr k
end TL

namespace TL
open PySem PySem.Spec L2

/-! ### methods of texts -/
inductive Mth where
  | split | starts | join
def strsOf : List D → Option (List Str)
  | [] => some []
  | .str x :: ds => (strsOf ds).map (x :: ·)
  | _ => none
def pMth : Mth → D → D → Option PV
  | .split, .str a, .str b => if ((b.length != 0) && decide (a.length + 2 ≤ sizeLine)) = true then some (.new ((Txt.split a b).map .str)) else none
  | .starts, .str a, .str b => some (.sc (.bl (Txt.startswith a b)))
  | .join, .str a, .lst ds => match strsOf ds with
    | some ys => if (ys.map (·.length)).sum + ys.length * a.length ≤ 16777216 then some (.sc (.str (Txt.join a ys))) else none
    | none => none
  | _, _, _ => none
def rMth (K : PySem.W.Frag) : Mth → V → List V → Hp → VK → Prop
  | .split => fun x xs H Q => ∃ a b, x = .str a ∧ xs = [.str b] ∧ (b.length == 0) = false ∧ a.length + 2 ≤ sizeLine ∧ rNewStrs (Txt.split a b) H Q
  | .starts => fun x xs H Q => ∃ a b, x = .str a ∧ xs = [.str b] ∧ Q (.bl (Txt.startswith a b)) H
  | .join => fun x xs H Q => ∃ a p, ∃ ys : List Str, x = .str a ∧ xs = [.ref p] ∧ (SqL K H p (ys.map V.str) ∨ SqT K H p (ys.map V.str)) ∧ (ys.map (·.length)).sum + ys.length * a.length ≤ 16777216 ∧ Q (.str (Txt.join a ys)) H
def Mth.name : Mth → Str
  | .split => "split" | .starts => "startswith" | .join => "join"
theorem reps_strs {g : Gc} {S : Hp} : ∀ ys : List Str, Reps g S (ys.map .str) (ys.map V.str)
  | [] => by simp only [List.map_nil, Reps]
  | y :: ys => by
    simp only [List.map_cons, Reps, Rep]
    exact ⟨_, _, rfl, rfl, reps_strs ys⟩
theorem strsOf_reps {g : Gc} {S : Hp} : ∀ {ds : List D} {ys : List Str} {vs : List V}, strsOf ds = some ys → Reps g S ds vs → vs = ys.map V.str
  | [], ys, vs, e, h => by
    simp only [strsOf, Option.some.injEq] at e
    subst e
    simp only [Reps] at h
    exact h
  | d :: ds, ys, vs, e, h => by
    cases d <;> simp only [strsOf, reduceCtorEq] at e
    obtain ⟨zs, e1, rfl⟩ := Option.map_eq_some_iff.mp e
    simp only [Reps, Rep] at h
    obtain ⟨v, r, rfl, rfl, h2⟩ := h
    rw [strsOf_reps e1 h2]
    rfl
theorem mth_ok {g : Gc} (m : Mth) : P2Ok g (fun x y H Q => rMth g.K m x [y] H Q) (pMth m) := by
  intro d e pv h S H v w Q s rd re k
  cases m
  · cases d <;> cases e <;> simp only [pMth, reduceCtorEq] at h
    rename_i a b
    split at h
    · rename_i hz
      cases h
      simp only [Bool.and_eq_true, bne_iff_ne, ne_eq, decide_eq_true_eq] at hz
      simp only [Rep] at rd re
      subst rd; subst re
      exact ⟨a, b, rfl, rfl, by simpa using hz.1, hz.2, fun p hp => k _ (reps_strs _) p hp⟩
    · cases h
  · cases d <;> cases e <;> simp only [pMth, reduceCtorEq] at h
    cases h
    simp only [Rep] at rd re
    subst rd; subst re
    exact ⟨_, _, rfl, rfl, pv_bl k⟩
  · cases d <;> cases e <;> simp only [pMth, reduceCtorEq] at h
    rename_i a ds
    split at h
    · rename_i ys ey
      split at h
      · rename_i hz
        cases h
        simp only [Rep] at rd re
        subst rd
        obtain ⟨p, vs, rfl, q, rr⟩ := re
        have := strsOf_reps ey rr
        subst this
        exact ⟨a, p, ys, rfl, rfl, .inl (SqL.of (s _ _ q)), hz, pv_str k⟩
      · cases h
    · cases h
def evM1 (p : D → D → Option PV) (m n : M R) : M R := m >>= fun r => match r.d with
  | .str _ => n >>= fun q => match p r.d q.d with
    | some pv => .ok (mkPV (r.clean && q.clean) pv)
    | none => .stuck
  | _ => .stuck
theorem snd_m1 {g : Gc} {W : WX} {ρ : En} {r : V → List V → Hp → VK → Prop} {p : D → D → Option PV} (hp : P2Ok g (fun x y H Q => r x [y] H Q) p) {ta tb : TE} {m n : M R} (h1 : SndE g ta W ρ m) (h2 : SndE g tb W ρ n) : SndE g (tM1 r ta tb) W ρ (evM1 p m n) := by
  unfold evM1
  cases m with
  | stuck => exact trivial
  | rai c p => exact fun σ H Z F Q st h => h1 σ H Z F _ st h
  | ok ra =>
    rw [M.bind_ok]
    cases ed : ra.d with
    | str z =>
      have isS : ∀ {σ H Z F v H1 f1}, StE g Z F ρ σ H → PR g Z F H ra v H1 f1 → ∃ a, v = .str a := fun st p1 => by
        have := p1.read st
        rw [ed] at this
        simp only [Rep] at this
        exact ⟨z, this⟩
      cases n with
      | stuck => exact trivial
      | rai c p =>
        exact fun σ H Z F Q st h => h1 σ H Z F _ st fun v H1 f1 p1 => ⟨isS st p1, h2 σ H1 _ F _ (st.ext p1.same p1.fr p1.al) fun d H' s x => h d H' (p1.same.trans s) (x.pre p1.same)⟩
      | ok rb =>
        show SndE g _ W ρ (match p (.str z) rb.d with | some pv => .ok (mkPV (ra.clean && rb.clean) pv) | none => .stuck)
        cases e : p (.str z) rb.d with
        | none => exact trivial
        | some pv =>
          refine fun σ H Z F Q st h => h1 σ H Z F _ st fun v H1 f1 p1 => ⟨isS st p1, h2 σ H1 _ F _ (st.ext p1.same p1.fr p1.al) fun w H2 f2 p2 => ?_⟩
          have k := p1.read2 st p2
          exact hp _ _ _ e _ _ _ _ _ hid_sub (by rw [← ed]; exact k.1) k.2 (PVPost.of st (p1.same.trans p2.same) h)
    | _ => exact trivial
/-! ### the inner form of expressions -/
mutual
inductive E where
  | var (i : Nat) | int (i : Int) | bl (b : Bool) | non | str (x : Str) | glob (k : Nat)
  | bin (op : Operator) (a b : E) | neg (a : E)
  | cmp (op : CmpOp) (a b : E) | chain (o1 o2 : CmpOp) (a b c : E)
  | and (a : E) (r : Es) | or (a : E) (r : Es) | not (a : E) | ite (c : B) (a b : E)
  | tup (es : Es) | lst (es : Es) | idx (a b : E) | slice (a : E) (lo hi : Eo)
  | blt (b : Blt) (e : E) (es : Es) | isT (t : String) (a : E)
  | call (f : Nat) (e : E) (es : Es) | fld (c k : Nat) (a : E) | bits (a : E) | m1 (m : Mth) (a b : E)
  | comp (elt : E) (tg : Tg) (it : I) (cond : Bo) (vs : List Nat)
inductive Es where
  | nil | cons (e : E) (es : Es)
inductive Eo where
  | none | some (e : E)
inductive I where
  | seq (e : E) | rng1 (e : E) | rng2 (a b : E)
/-- tests -/
inductive B where
  | cmp (op : CmpOp) (a b : E) | chain (o1 o2 : CmpOp) (a b c : E)
  | and (a : B) (r : Bs) | or (a : B) (r : Bs) | not (a : B) | val (e : E)
inductive Bs where
  | nil | cons (b : B) (bs : Bs)
inductive Bo where
  | none | some (b : B)
end

/-- what the program gives: constants, defs -/
structure Pg where
  cst : Nat → Option D
  ar : Nat → Nat
  call : Nat → List D → M O
def taint : R → R
  | .own o => if o.lf = true then .own o else .val false o.d
  | .val c d => .val d.flat d
  | .bor o => .val false o.d
def compV (it : M (Bool × List D)) (bind : D → En → Option En) (cond : En → M Bool) (elt : En → M R) (vs : List Nat) (ρ : En) : M R := it >>= fun p =>
  if p.2.length ≤ sizeLine then (match p.1 with
    | true => match compL bind cond elt (wipeEn ρ vs) p.2 with
      | .ok rs => .ok (mkLst rs)
      | _ => .stuck
    | false => match compL bind cond elt (wipeEn (unown ρ) vs) p.2 with
      | .ok rs => .ok (taint (mkLst rs))
      | _ => .stuck) else .stuck
def boolV (r : R) : M Bool := match r.d with
  | .bl b => .ok b
  | _ => .stuck
def pBits : D → Option PV
  | .int i => some (.sc (.int ((Builtin.Int.intBits i : Nat) : Int)))
  | _ => none
def rBits : V → Hp → VK → Prop := fun x H Q => ∃ i, x = .int i ∧ Q (.int (Builtin.Int.intBits i : Nat)) H
theorem bits_ok {g : Gc} : P1Ok g rBits pBits := fun d pv e S H v Q s h p => by
  cases d <;> simp only [pBits, reduceCtorEq, Option.some.injEq] at e
  subst e
  simp only [Rep] at h
  subst h
  exact ⟨_, rfl, p _ (fun S' => by simp only [Rep])⟩
mutual
def evE (pg : Pg) : E → En → M R
  | .var i, ρ => evVar ρ i
  | .int i, _ => .ok (.val true (.int i))
  | .bl b, _ => .ok (.val true (.bl b))
  | .non, _ => .ok (.val true .non)
  | .str x, _ => .ok (.val true (.str x))
  | .glob k, _ => match pg.cst k with
    | some d => .ok (.val true d)
    | none => .stuck
  | .bin op a b, ρ => prim2 (pBin op) (evE pg a ρ) (evE pg b ρ)
  | .neg a, ρ => prim1 (fun d => match d with | .int i => some (.sc (.int (-i))) | _ => none) (evE pg a ρ)
  | .cmp op a b, ρ => prim2 (pCmp op) (evE pg a ρ) (evE pg b ρ)
  | .chain o1 o2 a b c, ρ => chainV (pCmp o1) (pCmp o2) (evE pg a ρ) (evE pg b ρ) (evE pg c ρ)
  | .and a r, ρ => evAnd pg (evE pg a ρ) r ρ
  | .or a r, ρ => evOr pg (evE pg a ρ) r ρ
  | .not a, ρ => notV (evE pg a ρ)
  | .ite c a b, ρ => iteV (evB pg c ρ) (evE pg a ρ) (evE pg b ρ)
  | .tup es, ρ => evEs pg es ρ >>= fun rs => if rs.length ≤ sizeLine then .ok (mkTup rs) else .stuck
  | .lst es, ρ => evEs pg es ρ >>= fun rs => if rs.length ≤ sizeLine then .ok (mkLst rs) else .stuck
  | .idx a b, ρ => evIdx (evE pg a ρ) (evE pg b ρ)
  | .slice a lo hi, ρ => evSl (evE pg a ρ) (evEo pg lo ρ) (evEo pg hi ρ)
  | .blt b e es, ρ => primN (pBlt b) (evE pg e ρ >>= fun r => evEs pg es ρ >>= fun rs => .ok (r :: rs))
  | .isT t a, ρ => evIsT t (evE pg a ρ)
  | .call f e es, ρ => evCall (pg.ar f) (pg.call f) (evE pg e ρ >>= fun r => evEs pg es ρ >>= fun rs => .ok (r :: rs))
  | .fld c k a, ρ => evFld c k (evE pg a ρ)
  | .bits a, ρ => prim1 pBits (evE pg a ρ)
  | .m1 m a b, ρ => evM1 (pMth m) (evE pg a ρ) (evE pg b ρ)
  | .comp elt tg it cond vs, ρ => if (tg.slots.all fun j => vs.contains j) = true then compV (evI pg it ρ) (bindD tg) (fun ρ => evBo pg cond ρ) (fun ρ => evE pg elt ρ) vs ρ else .stuck
def evEs (pg : Pg) : Es → En → M (List R)
  | .nil, _ => .ok []
  | .cons e es, ρ => evE pg e ρ >>= fun r => evEs pg es ρ >>= fun rs => .ok (r :: rs)
def evAnd (pg : Pg) : M R → Es → En → M R
  | m, .nil, _ => m
  | m, .cons e es, ρ => andV m (evAnd pg (evE pg e ρ) es ρ)
def evOr (pg : Pg) : M R → Es → En → M R
  | m, .nil, _ => m
  | m, .cons e es, ρ => orV m (evOr pg (evE pg e ρ) es ρ)
def evEo (pg : Pg) : Eo → En → M (Option Int)
  | .none, _ => .ok none
  | .some e, ρ => partV (evE pg e ρ)
def evI (pg : Pg) : I → En → M (Bool × List D)
  | .seq e, ρ => evItems (evE pg e ρ)
  | .rng1 e, ρ => evRng1 (evE pg e ρ >>= fun r => M.ok [] >>= fun rs => .ok (r :: rs))
  | .rng2 a b, ρ => evRng2 (evE pg a ρ >>= fun r => (evE pg b ρ >>= fun r => M.ok [] >>= fun rs => .ok (r :: rs)) >>= fun rs => .ok (r :: rs))
def evB (pg : Pg) : B → En → M Bool
  | .cmp op a b, ρ => prim2 (pCmp op) (evE pg a ρ) (evE pg b ρ) >>= boolV
  | .chain o1 o2 a b c, ρ => chainV (pCmp o1) (pCmp o2) (evE pg a ρ) (evE pg b ρ) (evE pg c ρ) >>= boolV
  | .and a r, ρ => evAndT pg (evB pg a ρ) r ρ
  | .or a r, ρ => evOrT pg (evB pg a ρ) r ρ
  | .not a, ρ => notT (evB pg a ρ)
  | .val e, ρ => truM (evE pg e ρ)
def evAndT (pg : Pg) : M Bool → Bs → En → M Bool
  | m, .nil, _ => m
  | m, .cons b bs, ρ => andT m (evAndT pg (evB pg b ρ) bs ρ)
def evOrT (pg : Pg) : M Bool → Bs → En → M Bool
  | m, .nil, _ => m
  | m, .cons b bs, ρ => orT m (evOrT pg (evB pg b ρ) bs ρ)
def evBo (pg : Pg) : Bo → En → M Bool
  | .none, _ => .ok true
  | .some b, ρ => evB pg b ρ
end

/-! ### the text is of that form -/
/-- what the look knows: the def's names, the scope at hand, names that the module leaves to the built-ins, names of built-in functions, constants, defs, fields -/
structure Ck where
  N : List Str
  sc : Scope
  fr : List Str
  bf : List (Str × String)
  cst : List (Nat × Str)
  fn : List (Nat × Str)
  fld : List (List Str)
  /-- classes of errors: without, with an __init__(self, at) -/
  ex : List (Nat × Str) := []
  exi : List (Nat × Str) := []
def visB (sc : Scope) (x : Str) : Bool := match sc.names.lookup x with
  | some .local => true
  | some .cell => true
  | some .free => true
  | _ => false
def glB (sc : Scope) (x : Str) : Bool := match sc.names.lookup x with
  | some .globalImplicit => true
  | _ => false
def ndb (x : Str) : Bool := !(x == ("__debug__" : Str)) && !(x == ("__classdict__" : Str)) && !(x == ("__name__" : Str))
def nameB (c : Ck) (i : Nat) : PySem.Expr → Bool
  | .Name x _ => decide (c.N[i]? = some x) && visB c.sc x && ndb x
  | _ => false
def noStar : List PySem.Expr → Bool
  | [] => true
  | .Starred _ _ :: _ => false
  | _ :: es => noStar es
def Blt.name : Blt → Str
  | .len => "len" | .abs => "abs" | .max => "max" | .min => "min" | .int => "int" | .str => "str" | .list => "list" | .gcd => "gcd"
def noSlice : PySem.Expr → Bool
  | .Slice _ _ _ _ => false
  | _ => true
def noCall0 : PySem.Expr → Bool
  | .Call _ [] _ _ => false
  | _ => true
def noSet : PySem.Expr → Bool
  | .Set _ _ _ => false
  | _ => true
/-- an expression whose test is its value's truth -/
def plainT : PySem.Expr → Bool
  | .UnaryOp .Not _ _ => false
  | .BoolOp _ _ _ => false
  | .IfExp _ _ _ _ => false
  | .Compare _ _ _ _ => false
  | _ => true
def tgB (c : Ck) (sc : Scope) : Tg → PySem.Expr → Bool
  | .name i, .Name x _ => decide (c.N[i]? = some x) && (match sc.names.lookup x with
    | some .local => true
    | some .cell => true
    | _ => false)
  | .tup is, .Tuple es _ _ => tgsB c sc is es && noStar es
  | _, _ => false
where tgsB (c : Ck) (sc : Scope) : List Nat → List PySem.Expr → Bool
  | [], [] => true
  | i :: is, .Name x _ :: es => decide (c.N[i]? = some x) && (match sc.names.lookup x with
    | some .local => true
    | some .cell => true
    | _ => false) && tgsB c sc is es
  | _, _ => false
def ownOf (c : Ck) (vs : List Nat) : List (Str × Nat) := vs.filterMap fun i => (c.N[i]?).map fun x => (x, i)
mutual
def chkE (c : Ck) : E → PySem.Expr → Bool
  | .var i, e => nameB c i e
  | .int i, .Constant (.int j) _ _ => decide (i = j)
  | .bl b, .Constant (.bool d) _ _ => b == d
  | .non, .Constant .none _ _ => true
  | .str x, .Constant (.str y) _ _ => decide (x = y)
  | .glob k, .Name x _ => decide (c.cst.lookup k = some x) && glB c.sc x && ndb x
  | .bin op a b, .BinOp l o r _ => decide (op = o) && chkE c a l && chkE c b r
  | .neg a, .UnaryOp .USub x _ => chkE c a x
  | .cmp op a b, .Compare l [o] [r] _ => decide (op = o) && chkE c a l && chkE c b r && noSet r
  | .chain o1 o2 a b d, .Compare l [p1, p2] [r, s] _ => decide (o1 = p1) && decide (o2 = p2) && chkE c a l && chkE c b r && chkE c d s && noSet s
  | .and a r, .BoolOp .And (x :: xs) _ => chkE c a x && chkEs c r xs
  | .or a r, .BoolOp .Or (x :: xs) _ => chkE c a x && chkEs c r xs
  | .not a, .UnaryOp .Not x _ => chkE c a x
  | .ite t a b, .IfExp x y z _ => chkB c t x && chkE c a y && chkE c b z
  | .tup es, .Tuple xs _ _ => chkEs c es xs && noStar xs
  | .lst es, .List xs _ => chkEs c es xs && noStar xs
  | .idx a b, .Subscript x y _ => chkE c a x && chkE c b y && noSlice y
  | .slice a lo hi, .Subscript x (.Slice l h none _) _ => chkE c a x && chkEo c lo l && chkEo c hi h
  | .blt b e es, .Call (.Name x _) (y :: ys) [] _ => decide (x = b.name) && glB c.sc x && (match b with
    | .gcd => c.bf.contains (x, "math.gcd")
    | _ => c.fr.contains x) && chkE c e y && chkEs c es ys && noStar (y :: ys)
  | .isT t a, .Call (.Name x _) [y, .Name z _] [] _ => decide (x = ("isinstance" : Str)) && glB c.sc x && c.fr.contains x && chkE c a y && noStar [y] && decide (z = (t : Str)) && glB c.sc z && c.fr.contains z && ndb z && decide (bootBuiltins z = some (.type t))
  | .call f e es, .Call (.Name x _) (y :: ys) [] _ => decide (c.fn.lookup f = some x) && glB c.sc x && ndb x && chkE c e y && chkEs c es ys && noStar (y :: ys)
  | .fld cl k a, .Attribute x f _ => decide ((c.fld[cl]?.bind fun l => l[k]?) = some f) && chkE c a x && noCall0 x
  | .m1 m a b, .Call (.Attribute o f ap) [y] [] pos => decide (f = m.name) && chkE c a o && noCall0 o && chkE c b y && noStar [y] && (ap.endLine == pos.line)
  | .bits a, .Call (.Attribute o f ap) [] [] pos => decide (f = ("bit_length" : Str)) && chkE c a o && noCall0 o && (ap.endLine == pos.line)
  | .comp elt tg it cond vs, .ListComp x [⟨t, i, ifs, 0⟩] scope _ => decide ((ownOf c vs).map (·.2) = vs) && blkC c.N c.sc scope (ownOf c vs) && tg.slots.all (fun j => vs.contains j) && tgB c scope tg t && chkI c it i &&
      chkBo { c with sc := relS scope c.sc } cond ifs && chkE { c with sc := relS scope c.sc } elt x
  | _, _ => false
def chkEs (c : Ck) : Es → List PySem.Expr → Bool
  | .nil, [] => true
  | .cons e es, x :: xs => chkE c e x && chkEs c es xs
  | _, _ => false
def chkEo (c : Ck) : Eo → Option PySem.Expr → Bool
  | .none, none => true
  | .some e, some x => chkE c e x
  | _, _ => false
def chkI (c : Ck) : I → PySem.Expr → Bool
  | .seq e, x => chkE c e x && noSet x
  | .rng1 e, .Call (.Name f _) [x] [] _ => decide (f = ("range" : Str)) && glB c.sc f && c.fr.contains f && chkE c e x && noStar [x]
  | .rng2 a b, .Call (.Name f _) [x, y] [] _ => decide (f = ("range" : Str)) && glB c.sc f && c.fr.contains f && chkE c a x && chkE c b y && noStar [x, y]
  | _, _ => false
def chkB (c : Ck) : B → PySem.Expr → Bool
  | .cmp op a b, .Compare l [o] [r] _ => decide (op = o) && chkE c a l && chkE c b r && noSet r
  | .chain o1 o2 a b d, .Compare l [p1, p2] [r, s] _ => decide (o1 = p1) && decide (o2 = p2) && chkE c a l && chkE c b r && chkE c d s && noSet s
  | .and a r, .BoolOp .And (x :: xs) _ => chkB c a x && chkBs c r xs
  | .or a r, .BoolOp .Or (x :: xs) _ => chkB c a x && chkBs c r xs
  | .not a, .UnaryOp .Not x _ => chkB c a x
  | .val e, x => chkE c e x && plainT x
  | _, _ => false
def chkBs (c : Ck) : Bs → List PySem.Expr → Bool
  | .nil, [] => true
  | .cons b bs, x :: xs => chkB c b x && chkBs c bs xs
  | _, _ => false
def chkBo (c : Ck) : Bo → List PySem.Expr → Bool
  | .none, [] => true
  | .some b, [x] => chkB c b x
  | _, _ => false
end
end TL

namespace TL
open PySem PySem.Spec L2
variable {g : Gc}

/-! ### the text's own side conditions -/
theorem star_cons {e : PySem.Expr} {es : List PySem.Expr} {env : Env} (h : noStar (e :: es) = true) : starEach (e :: es) env = (false, eval e env) :: starEach es env := by
  cases e <;> first | rfl | (simp [noStar] at h)
theorem noStar_tail {e : PySem.Expr} {es : List PySem.Expr} (h : noStar (e :: es) = true) : noStar es = true := by
  cases e <;> first | exact h | (simp [noStar] at h)
theorem star_any : ∀ {es : List PySem.Expr} {env : Env} {pos : Pos}, noStar es = true → (backTo pos (starEach es env)).any (·.1) = false
  | [], _, _, _ => rfl
  | e :: es, env, pos, h => by
    rw [star_cons h]
    show (false || (backTo pos (starEach es env)).any (·.1)) = false
    rw [star_any (noStar_tail h)]
    rfl
theorem abase {o : PySem.Expr} {f : Str} {env : Env} {w : Sem Value} (h : noCall0 o = true) : attributeBase o f env w = w := by
  cases o <;> first | rfl | skip
  rename_i fn args kws pos
  cases args with
  | nil => simp [noCall0] at h
  | cons a as => cases fn <;> rfl
theorem plain_ix {b : PySem.Expr} (h : noSlice b = true) : PlainIx b := fun o i => by
  cases b <;> first | rfl | (simp [noSlice] at h)
theorem mark_ok {op : CmpOp} {b : PySem.Expr} (h : noSet b = true) : behindInMarks op b = false := by
  cases b <;> first | rfl | (simp [noSet] at h)
theorem marks_ok {o1 o2 : CmpOp} {a b : PySem.Expr} (h : noSet b = true) : lastMarks [o1, o2] [a, b] = false := by
  show behindInMarks o2 b = false
  exact mark_ok h
theorem folded_ok {e : PySem.Expr} {env : Env} (h : noSet e = true) : ∀ x, foldedSetIterable e env x = pure x := fun x => by
  cases e <;> first | rfl | (simp [noSet] at h)
theorem plainT_ok {e : PySem.Expr} {env : Env} (h : plainT e = true) : ∀ whole, isTrue e env whole = (do let v ← whole; standAt e.pos; holding [v] (truthy v)) := fun whole => by
  cases e <;> first | rfl | (simp [plainT] at h; done) | skip
  rename_i op x pos
  cases op <;> first | rfl | (simp [plainT] at h)
theorem vis_of {sc : Scope} {x : Str} (h : visB sc x = true) : Vis sc x := by
  unfold visB at h
  split at h
  · exact .inl (by assumption)
  · exact .inr (.inl (by assumption))
  · exact .inr (.inr (by assumption))
  · cases h
theorem gl_of {X : Cx} {x : Str} (h : glB X.env.scope x = true) : Gl X x := by
  unfold glB at h
  split at h
  · assumption
  · cases h
theorem ndb_of {x : Str} (h : ndb x = true) : (x == ("__debug__" : Str)) = false ∧ (x == ("__classdict__" : Str)) = false ∧ x ≠ "__name__" := by
  unfold ndb at h
  simp only [Bool.and_eq_true, Bool.not_eq_true'] at h
  exact ⟨h.1.1, h.1.2, by simpa using h.2⟩

/-! ### the context -/
structure CtxOk (g : Gc) (pg : Pg) (c : Ck) (W : WX) (X : Cx) : Prop where
  K : X.K = g.K
  N : X.N = c.N
  nd : c.N.Nodup
  sc : X.env.scope = c.sc
  calm : X.calm = true
  hu : X.A.units + 65 < cLine
  fr : ∀ x ∈ c.fr, X.mg x = none
  bf : ∀ x id, (x, id) ∈ c.bf → X.mg x = some (.builtin id)
  cst : ∀ (k : Nat) (x : Str), c.cst.lookup k = some x → ∃ u, X.mg x = some u ∧ RelV (g.cv k) u
  fn : ∀ (k : Nat) (x : Str), c.fn.lookup k = some x → ∃ (fa : Addr) (fd : FuncData) (ps : List Str) (lv : Nat), X.mg x = some (.ref fa) ∧ FnOk X.prog X.w X.K X.mg X.base (L2.CX X.prog X.w) lv fa fd ps (spG g (pg.ar k) (pg.call k)) ∧ Room lv X.A ∧ PySem.W.keepIn X.K (.ref fa) = true ∧ Binds X.K fd ps []
  fld : ∀ (cl k : Nat) (f : Str), (c.fld[cl]?.bind fun l => l[k]?) = some f → (g.flds cl)[k]? = some f
  px : ∀ σ, PassesAt (L2.CX X.prog X.w) X σ (WE W σ)
theorem passes0 {X : Cx} (σ : L2.St) : PassesAt (L2.CX X.prog X.w) X σ (WE W0 σ) := fun _ _ _ _ _ _ h => by
  obtain ⟨_, _, _, _, _, _, _, _, _, _, _, _, z⟩ := h
  exact z.elim
theorem CtxOk.blk {pg : Pg} {c : Ck} {W : WX} {X : Cx} (ok : CtxOk g pg c W X) (s : Shared) (H : Hp) (scope : Scope) (C : Addr) (cl : List (Str × Addr)) (fp : List Addr) :
    CtxOk g pg { c with sc := relS scope c.sc } W0 (X.blk s H scope (compEnvC scope cl C X.env) fp) where
  K := ok.K
  N := ok.N
  nd := ok.nd
  sc := by
    show relS scope X.env.scope = relS scope c.sc
    rw [ok.sc]
  calm := ok.calm
  hu := ok.hu
  fr := ok.fr
  bf := ok.bf
  cst := ok.cst
  fn := ok.fn
  fld := ok.fld
  px := passes0
theorem StE.unown {Z : Addr → Prop} {F : List Addr} {ρ : En} {σ : Sg} {H : Hp} (st : StE g Z F ρ σ H) : StE g Z [] (TL.unown ρ) σ H := by
  refine ⟨List.nodup_nil, fun _ z => (nomatch z), st.zd, Slots.unown (hid_mono (Same.refl _) fun a u e z => ?_) ρ σ F (fun a ha u e => hid_some.mpr (And.intro (fun z => ?_) e)) st.sl⟩
  · rcases z with z | z
    · cases z
    · exact .inr z
  · rcases z with z | z
    · cases z
    · exact st.dj a ha z
theorem ItOk.mono {S S' : Hp} {J : It} {ds : List D} (h : ItOk g S J ds) (s : Same S S') : ItOk g S' J ds := fun H' k i => by
  obtain ⟨h1, h2⟩ := h H' (s.trans k) i
  exact ⟨h1, fun d e => ⟨(h2 d e).1, fun x H3 y => ⟨((h2 d e).2 x H3 y).1, Rep.mono s _ _ ((h2 d e).2 x H3 y).2⟩⟩⟩
/-- a comprehension -/
theorem snd_comp {gt : TG} {sl vs : List Nat} {bind : D → En → Option En} {tt : TT} {te : TE} {cond : En → M Bool} {elt : En → M R} {wi : TI} {W : WX} {ρ : En} {it : M (Bool × List D)} (hi : SndI g wi W ρ it) (hg : SndG g gt sl bind) (hsl : ∀ j ∈ sl, j ∈ vs) (ht : ∀ ρ, SndT g tt W0 ρ (cond ρ)) (he : ∀ ρ, SndE g te W0 ρ (elt ρ)) :
    SndE g (tLc wi gt tt te vs) W ρ (compV it bind cond elt vs ρ) := by
  unfold compV
  cases it with
  | stuck => exact trivial
  | rai c p => exact fun σ H Z F Q st h => hi σ H Z F _ st h
  | ok cd =>
    obtain ⟨c, ds⟩ := cd
    rw [M.bind_ok]
    split
    · rename_i hz
      have hz : ds.length ≤ sizeLine := hz
      cases c with
      | true =>
        simp only
        cases e : compL bind cond elt (wipeEn ρ vs) ds with
        | stuck => exact trivial
        | rai c p => exact trivial
        | ok rs =>
          refine fun σ H Z F Q st h => hi σ H Z F _ st fun J H1 s1 hJ L hL => ?_
          have st1 := st.ext0 s1
          refine comp_loop hg hsl ht he st1 hz (hJ.mono (hid_mono (Same.refl _) fun a u e z => ?_)) e hL fun H' acc f s hLl nLf nd fr k => ?_
          · rcases z with z | z
            · exact .inl ⟨rfl, z⟩
            · exact .inr z
          · have s0 : Same H H' := s1.trans s
            have fr0 : ∀ a ∈ L :: f, H a = none := fun a ha => by
              rcases List.mem_cons.mp ha with rfl | ha
              · exact s1.free hL
              · exact s1.free (fr a ha)
            cases e2 : ros rs with
            | some os =>
              have k2 := RRs.os st s0 fr0 e2 k
              refine h (.ref L) H' (L :: f) ⟨s0, List.nodup_cons.mpr ⟨nLf, nd⟩, fr0, ?_⟩
              unfold mkLst
              rw [e2]
              show ORep g _ _ (.lst os) _ _
              simp only [ORep]
              exact ⟨L, acc, f, rfl, hLl, rfl, k2⟩
            | none =>
              have k2 := RRs.read st s0 fr0 k (fun a ha => List.mem_cons_of_mem _ ha)
              refine h (.ref L) H' [] ⟨s0, List.nodup_nil, fun _ z => (nomatch z), ?_⟩
              unfold mkLst
              rw [e2]
              refine ⟨rfl, ?_⟩
              show Rep g (hid _ _) (.lst (rds rs)) _
              simp only [Rep]
              refine ⟨L, acc, rfl, hid_some.mpr (And.intro (fun z => ?_) hLl), Reps.mono (hid_mono (Same.refl _) fun a u e z => ?_) _ _ k2⟩
              · rcases z with z | z
                · cases z
                · exact st.zd L z (fr0 L List.mem_cons_self)
              · rcases z with z | z
                · cases z
                · exact .inr z
      | false =>
        simp only
        cases e : compL bind cond elt (wipeEn (unown ρ) vs) ds with
        | stuck => exact trivial
        | rai c p => exact trivial
        | ok rs =>
          refine fun σ H Z F Q st h => hi σ H Z F _ st fun J H1 s1 hJ L hL => ?_
          have stu := st.unown
          have st1 := stu.ext0 s1
          refine comp_loop hg hsl ht he st1 hz (hJ.mono (hid_mono (Same.refl _) fun a u e z => ?_)) e hL fun H' acc f s hLl nLf nd fr k => ?_
          · rcases z with z | z
            · cases z
            · exact .inr z
          · have s0 : Same H H' := s1.trans s
            have fr0 : ∀ a ∈ L :: f, H a = none := fun a ha => by
              rcases List.mem_cons.mp ha with rfl | ha
              · exact s1.free hL
              · exact s1.free (fr a ha)
            have nZ : ∀ a ∈ L :: f, ¬ Z a := fun a ha z => st.zd a z (fr0 a ha)
            -- the list of what was made, as seen
            have view : Rep g (hid Z H') (.lst (rds rs)) (.ref L) := by
              have k2 := RRs.read stu s0 fr0 k (fun a ha => List.mem_cons_of_mem _ ha)
              simp only [Rep]
              refine ⟨L, acc, rfl, hid_some.mpr (And.intro (nZ L List.mem_cons_self) hLl), Reps.mono (hid_mono (Same.refl _) fun a u e z => ?_) _ _ k2⟩
              exact .inr z
            have asVal : ∀ {d : D}, d = .lst (rds rs) → PR g Z F H (.val false d) (.ref L) H' [] := fun {d} ed => by
              refine ⟨s0, List.nodup_nil, fun _ z => (nomatch z), rfl, ?_⟩
              show Rep g (hid _ _) d _
              rw [ed]
              refine Rep.mono (hid_mono (Same.refl _) fun a u e z => ?_) _ _ view
              rcases z with z | z
              · cases z
              · exact z
            cases e2 : ros rs with
            | some os =>
              have k2 := RRs.os stu s0 fr0 e2 k
              have hm : mkLst rs = .own (.lst os) := by unfold mkLst; rw [e2]
              rw [hm] at h
              by_cases hf : (O.lst os).lf = true
              · have ht2 : taint (.own (.lst os)) = .own (.lst os) := if_pos hf
                rw [ht2] at h
                refine h (.ref L) H' (L :: f) ⟨s0, List.nodup_cons.mpr ⟨nLf, nd⟩, fr0, ?_⟩
                show ORep g _ _ (.lst os) _ _
                refine ORep.flat (hid_leT fun a u n e => ⟨e, fun z => ?_⟩) (.lst os) _ _ hf (S := hid (fun a => a ∈ L :: f ∨ a ∈ ([] : List Addr) ∨ Z a) H') ?_
                · rcases z with z | z | z
                  · exact absurd (.inl z) n
                  · exact (st.soft a z).same s0
                  · exact absurd (.inr (.inr z)) n
                · simp only [ORep]
                  exact ⟨L, acc, f, rfl, hLl, rfl, k2⟩
              · have ht2 : taint (.own (.lst os)) = .val false (O.lst os).d := if_neg hf
                rw [ht2] at h
                refine h (.ref L) H' [] ?_
                refine ⟨s0, List.nodup_nil, fun _ z => (nomatch z), rfl, ?_⟩
                show Rep g (hid _ _) (O.lst os).d _
                refine ORep.view (S := hid (fun a => a ∈ L :: f ∨ a ∈ ([] : List Addr) ∨ Z a) H') (H := H') (hid_mono (Same.refl _) fun a u e z => ?_) (.lst os) _ (L :: f) (fun a ha u e => hid_some.mpr (And.intro (fun z => ?_) e)) ?_
                · rcases z with z | z
                  · cases z
                  · exact .inr (.inr z)
                · rcases z with z | z
                  · cases z
                  · exact nZ a ha z
                · simp only [ORep]
                  exact ⟨L, acc, f, rfl, hLl, rfl, k2⟩
            | none =>
              have hm : mkLst rs = .val false (.lst (rds rs)) := by unfold mkLst; rw [e2]
              rw [hm] at h
              have ht2 : taint (.val false (.lst (rds rs))) = .val false (.lst (rds rs)) := rfl
              rw [ht2] at h
              exact h _ _ _ (asVal rfl)
    · exact trivial
end TL

namespace TL
open PySem PySem.Spec L2
variable {g : Gc} {pg : Pg}

theorem pg_tgs {X : Cx} {c : Ck} {sc : Scope} (hN : X.N = c.N) (nd : c.N.Nodup) (hl : ∀ x, (match sc.names.lookup x with | some .local => true | some .cell => true | _ => false) = true → Loc X.env.scope x ∧ (X.fn x = true ∨ X.env.scope.names.lookup x = some .local)) :
    ∀ (is : List Nat) (es : List PySem.Expr), tgB.tgsB c sc is es = true → PGs X es (gNames is)
  | [], [], _ => pgs_nil
  | [], _ :: _, h => by simp [tgB.tgsB] at h
  | i :: is, [], h => by simp [tgB.tgsB] at h
  | i :: is, e :: es, h => by
    cases e <;> simp only [tgB.tgsB, Bool.false_eq_true] at h
    rename_i x pos
    simp only [Bool.and_eq_true, decide_eq_true_eq] at h
    obtain ⟨h1, h2⟩ := hl x h.1.2
    exact pgs_cons (pg_name (by rw [hN]; exact nd) (by rw [hN]; exact h.1.1) h1 h2) (pg_tgs hN nd hl is es h.2)
theorem assign_len {env : Env} : ∀ {es : List PySem.Expr}, (assignEach es env).length = es.length
  | [] => rfl
  | e :: es => by
    cases e <;> (show _ + 1 = _ + 1; rw [assign_len])
theorem tgs_len {c : Ck} {sc : Scope} : ∀ {is : List Nat} {es : List PySem.Expr}, tgB.tgsB c sc is es = true → es.length = is.length
  | [], [], _ => rfl
  | [], _ :: _, h => by simp [tgB.tgsB] at h
  | i :: is, [], h => by simp [tgB.tgsB] at h
  | i :: is, e :: es, h => by
    cases e <;> simp only [tgB.tgsB, Bool.false_eq_true] at h
    simp only [Bool.and_eq_true] at h
    rw [List.length_cons, List.length_cons, tgs_len h.2]
theorem assign_noStar {env : Env} : ∀ {es : List PySem.Expr}, noStar es = true → (assignEach es env).findIdx? (·.1) = none
  | [], _ => rfl
  | e :: es, h => by
    have ih := assign_noStar (env := env) (noStar_tail h)
    have : assignEach (e :: es) env = (false, assign e env) :: assignEach es env := by
      cases e <;> first | rfl | (simp [noStar] at h)
    rw [this, List.findIdx?_cons, ih]
    rfl
theorem tg_ok {X : Cx} {c : Ck} {sc : Scope} {tg : Tg} {e : PySem.Expr} (hK : X.K = g.K) (hN : X.N = c.N) (nd : c.N.Nodup) (hc : X.calm = true) (hl : ∀ x, (match sc.names.lookup x with | some .local => true | some .cell => true | _ => false) = true → Loc X.env.scope x ∧ (X.fn x = true ∨ X.env.scope.names.lookup x = some .local))
    (h : tgB c sc tg e = true) : PG X e (match tg with | .name i => gName i | .tup is => gTup g.K is.length (gNames is)) := by
  cases tg with
  | name i =>
    cases e <;> simp only [tgB, Bool.false_eq_true] at h
    rename_i x pos
    simp only [Bool.and_eq_true, decide_eq_true_eq] at h
    obtain ⟨h1, h2⟩ := hl x h.2
    exact pg_name (by rw [hN]; exact nd) (by rw [hN]; exact h.1) h1 h2
  | tup is =>
    cases e <;> simp only [tgB, Bool.false_eq_true] at h
    rename_i es k pos
    simp only [Bool.and_eq_true] at h
    have := pg_tup (X := X) (k := k) (pos := pos) (n := is.length) hc (pg_tgs hN nd hl is es h.1) (by rw [assign_len]; exact tgs_len h.1) (assign_noStar h.2)
    rw [hK] at this
    exact this
theorem snd_tg (tg : Tg) : SndG g (match tg with | .name i => gName i | .tup is => gTup g.K is.length (gNames is)) tg.slots (bindD tg) := by
  cases tg with
  | name i => exact snd_gName i
  | tup is => exact snd_gTup is
theorem blt_boot : ∀ b : Blt, b ≠ .gcd → bootBuiltins b.name = some b.val
  | .len, _ => by decide +kernel
  | .abs, _ => by decide +kernel
  | .max, _ => by decide +kernel
  | .min, _ => by decide +kernel
  | .int, _ => by decide +kernel
  | .str, _ => by decide +kernel
  | .list, _ => by decide +kernel
  | .gcd, h => absurd rfl h

/-! ### the readings -/
def tgT (g : Gc) : Tg → TG
  | .name i => gName i
  | .tup is => gTup g.K is.length (gNames is)
mutual
def tE (g : Gc) (pg : Pg) (W : WX) : E → TE
  | .var i => tVar i
  | .int i => tC (.int i)
  | .bl b => tC (.bl b)
  | .non => tC .non
  | .str x => tC (.str x)
  | .glob k => tC (g.cv k)
  | .bin op a b => tOp (rBin op) (tE g pg W a) (tE g pg W b)
  | .neg a => tUn (rU fun i => .int (-i)) (tE g pg W a)
  | .cmp op a b => tOp (rCmp g.K op) (tE g pg W a) (tE g pg W b)
  | .chain o1 o2 a b c => tChain (rCmp g.K o1) (rCmp g.K o2) (tE g pg W a) (tE g pg W b) (tE g pg W c)
  | .and a r => tAndL g pg W (tE g pg W a) r
  | .or a r => tOrL g pg W (tE g pg W a) r
  | .not a => tNotV (tE g pg W a)
  | .ite c a b => tIf (tB' g pg W c) (tE g pg W a) (tE g pg W b)
  | .tup es => tTup (tEs g pg W es)
  | .lst es => tLst (tEs g pg W es)
  | .idx a b => tOp (rIx g.K) (tE g pg W a) (tE g pg W b)
  | .slice a lo hi => tSl (rSl g.K) (tE g pg W a) (tEo g pg W lo) (tEo g pg W hi)
  | .blt b e es => tCB (rBlt g.K b) (tCons (tE g pg W e) (tEs g pg W es))
  | .isT t a => tCB (rIsi g.K) (tCons (tE g pg W a) (tCons (tC (.ty t)) tNil))
  | .call f e es => tCallS (spG g (pg.ar f) (pg.call f)) (WE W) (tCons (tE g pg W e) (tEs g pg W es))
  | .fld c k a => tFld g.K (tE g pg W a) ((g.flds c).getD k "")
  | .bits a => tUn rBits (tE g pg W a)
  | .m1 m a b => tM1 (rMth g.K m) (tE g pg W a) (tE g pg W b)
  | .comp elt tg it cond vs => tLc (tI g pg W it) (tgT g tg) (tBo g pg W0 cond) (tE g pg W0 elt) vs
def tEs (g : Gc) (pg : Pg) (W : WX) : Es → TA
  | .nil => tNil
  | .cons e es => tCons (tE g pg W e) (tEs g pg W es)
def tAndL (g : Gc) (pg : Pg) (W : WX) : TE → Es → TE
  | t, .nil => t
  | t, .cons e es => tAndV t (tAndL g pg W (tE g pg W e) es)
def tOrL (g : Gc) (pg : Pg) (W : WX) : TE → Es → TE
  | t, .nil => t
  | t, .cons e es => tOrV t (tOrL g pg W (tE g pg W e) es)
def tEo (g : Gc) (pg : Pg) (W : WX) : Eo → TO
  | .none => tNoPart
  | .some e => tPart (tE g pg W e)
def tI (g : Gc) (pg : Pg) (W : WX) : I → TI
  | .seq e => iAny g.K (tE g pg W e)
  | .rng1 e => iRng1 (tCons (tE g pg W e) tNil)
  | .rng2 a b => iRng2 (tCons (tE g pg W a) (tCons (tE g pg W b) tNil))
def tB' (g : Gc) (pg : Pg) (W : WX) : B → TT
  | .cmp op a b => tTest (tOp (rCmp g.K op) (tE g pg W a) (tE g pg W b))
  | .chain o1 o2 a b c => tTest (tChain (rCmp g.K o1) (rCmp g.K o2) (tE g pg W a) (tE g pg W b) (tE g pg W c))
  | .and a r => tAndB g pg W (tB' g pg W a) r
  | .or a r => tOrB g pg W (tB' g pg W a) r
  | .not a => tNot (tB' g pg W a)
  | .val e => fun σ H Q => tE g pg W e σ H fun x H' => ∃ k, TruV g.K x H' k ∧ Q k H'
def tAndB (g : Gc) (pg : Pg) (W : WX) : TT → Bs → TT
  | t, .nil => t
  | t, .cons e es => tAnd t (tAndB g pg W (tB' g pg W e) es)
def tOrB (g : Gc) (pg : Pg) (W : WX) : TT → Bs → TT
  | t, .nil => t
  | t, .cons e es => tOr t (tOrB g pg W (tB' g pg W e) es)
def tBo (g : Gc) (pg : Pg) (W : WX) : Bo → TT
  | .none => tYes
  | .some b => tB' g pg W b
end
/-- what holds of the tables -/
structure GOk (g : Gc) (pg : Pg) : Prop where
  cst : ∀ (k : Nat) (d : D), pg.cst k = some d → ∀ S, Rep g S d (g.cv k)
  fld : ∀ (cl k : Nat) (f : Str), (g.flds cl)[k]? = some f → FldOk g cl k f
theorem snd_yes {W : WX} {ρ : En} : SndT g tYes W ρ (.ok true) := fun σ H Z F Q st h => h H (Same.refl _)
theorem fld_big {c k : Nat} (h : (g.flds c)[k]? = none) {r : R} (hr : insC r.d = some c) {Z : Addr → Prop} {F : List Addr} {ρ : En} {σ : Sg} {H H1 : Hp} {v : V} {f : List Addr} (st : StE g Z F ρ σ H) (p : PR g Z F H r v H1 f) : fldR r k = none := by
  have key : ∀ {ds : List D}, r.d = .ins c ds → ds.length = (g.flds c).length := fun {ds} ed => by
    have k1 := p.read st
    rw [ed] at k1
    simp only [Rep] at k1
    obtain ⟨a, dx, fs, _, _, n, rr⟩ := k1
    have h1 := Reps.len rr
    rw [← n, List.length_map]
    rw [List.length_map] at h1
    exact h1.symm
  have hk : (g.flds c).length ≤ k := List.getElem?_eq_none_iff.mp h
  have odl : ∀ os : List O, (ods os).length = os.length := by
    intro os
    induction os with
    | nil => rfl
    | cons o os ih => show _ + 1 = _ + 1; rw [ih]
  unfold fldR
  split
  · rename_i c' os
    have e : c' = c := by simpa [R.d, O.d, insC] using hr
    subst e
    have := key (ds := ods os) rfl
    rw [odl] at this
    rw [List.getElem?_eq_none (by omega)]
    rfl
  · split
    · rename_i c' ds ed
      rw [ed] at hr
      have e : c' = c := by simpa [insC] using hr
      subst e
      rw [List.getElem?_eq_none (by rw [key ed]; exact hk)]
      rfl
    · rfl
set_option maxHeartbeats 4000000 in
mutual
theorem sndE (G : GOk g pg) : ∀ (e : E) (W : WX) (ρ : En), SndE g (tE g pg W e) W ρ (evE pg e ρ)
  | .var i, W, ρ => snd_var i
  | .int i, W, ρ => snd_const fun S => by simp only [Rep]
  | .bl i, W, ρ => snd_const fun S => by simp only [Rep]
  | .non, W, ρ => snd_const fun S => by simp only [Rep]
  | .str i, W, ρ => snd_const fun S => by simp only [Rep]
  | .glob k, W, ρ => by
    simp only [evE, tE]
    cases e : pg.cst k with
    | none => exact trivial
    | some d => exact snd_const (G.cst k d e)
  | .bin op a b, W, ρ => snd_prim2 (bin_ok _) (sndE G a W ρ) (sndE G b W ρ)
  | .neg a, W, ρ => snd_prim1 neg_ok (sndE G a W ρ)
  | .cmp op a b, W, ρ => snd_prim2 (cmp_ok _) (sndE G a W ρ) (sndE G b W ρ)
  | .chain o1 o2 a b c, W, ρ => snd_chain (cmp_ok _) (cmp_ok _) (sndE G a W ρ) (sndE G b W ρ) (sndE G c W ρ)
  | .and a r, W, ρ => sndAnd G r W ρ (sndE G a W ρ)
  | .or a r, W, ρ => sndOr G r W ρ (sndE G a W ρ)
  | .not a, W, ρ => snd_notV (sndE G a W ρ)
  | .ite c a b, W, ρ => snd_ite (sndB G c W ρ) (sndE G a W ρ) (sndE G b W ρ)
  | .tup es, W, ρ => snd_tup (sndEs G es W ρ)
  | .lst es, W, ρ => snd_lst (sndEs G es W ρ)
  | .idx a b, W, ρ => snd_idx (sndE G a W ρ) (sndE G b W ρ)
  | .slice a lo hi, W, ρ => snd_slice (sndE G a W ρ) (sndEo G lo W ρ) (sndEo G hi W ρ)
  | .blt b e es, W, ρ => snd_primN (blt_ok b) (snd_cons (sndE G e W ρ) (sndEs G es W ρ))
  | .isT t a, W, ρ => snd_isT (sndE G a W ρ)
  | .call f e es, W, ρ => snd_call (snd_cons (sndE G e W ρ) (sndEs G es W ρ))
  | .fld c k a, W, ρ => by
    cases e : (g.flds c)[k]? with
    | some f =>
      have : (g.flds c).getD k "" = f := by rw [List.getD_eq_getElem?_getD, e]; rfl
      simp only [evE, tE, this]
      exact snd_fld (G.fld c k f e) (sndE G a W ρ)
    | none =>
      have ih := sndE G a W ρ
      simp only [evE, tE]
      unfold evFld
      cases em : evE pg a ρ with
      | stuck => exact trivial
      | rai c p =>
        rw [em] at ih
        exact fun σ H Z F Q st h => ih σ H Z F _ st h
      | ok r =>
        rw [M.bind_ok]
        split
        · rename_i hr
          cases e2 : fldR r k with
          | none => exact trivial
          | some r' =>
            rw [em] at ih
            refine fun σ H Z F Q st h => ih σ H Z F _ st fun v H1 f p => ?_
            rw [fld_big e hr st p] at e2
            cases e2
        · exact trivial
  | .bits a, W, ρ => snd_prim1 bits_ok (sndE G a W ρ)
  | .m1 m a b, W, ρ => snd_m1 (mth_ok m) (sndE G a W ρ) (sndE G b W ρ)
  | .comp elt tg it cond vs, W, ρ => by
    simp only [evE, tE]
    split
    · rename_i hs0
      have hs : ∀ j ∈ tg.slots, j ∈ vs := fun j hj => by
        have := List.all_eq_true.mp hs0 j hj
        simpa using this
      have hg : SndG g (tgT g tg) tg.slots (bindD tg) := by
        cases tg with
        | name i => exact snd_gName i
        | tup is => exact snd_gTup is
      exact snd_comp (sndI G it W ρ) hg hs (fun ρ => sndBo G cond W0 ρ) (fun ρ => sndE G elt W0 ρ)
    · exact trivial
theorem sndEs (G : GOk g pg) : ∀ (es : Es) (W : WX) (ρ : En), SndA g (tEs g pg W es) W ρ (evEs pg es ρ)
  | .nil, W, ρ => snd_nil
  | .cons e es, W, ρ => snd_cons (sndE G e W ρ) (sndEs G es W ρ)
theorem sndAnd (G : GOk g pg) : ∀ (es : Es) (W : WX) (ρ : En) {t : TE} {m : M R}, SndE g t W ρ m → SndE g (tAndL g pg W t es) W ρ (evAnd pg m es ρ)
  | .nil, W, ρ, t, m, h => h
  | .cons e es, W, ρ, t, m, h => snd_andV h (sndAnd G es W ρ (sndE G e W ρ))
theorem sndOr (G : GOk g pg) : ∀ (es : Es) (W : WX) (ρ : En) {t : TE} {m : M R}, SndE g t W ρ m → SndE g (tOrL g pg W t es) W ρ (evOr pg m es ρ)
  | .nil, W, ρ, t, m, h => h
  | .cons e es, W, ρ, t, m, h => snd_orV h (sndOr G es W ρ (sndE G e W ρ))
theorem sndEo (G : GOk g pg) : ∀ (e : Eo) (W : WX) (ρ : En), SndO g (tEo g pg W e) W ρ (evEo pg e ρ)
  | .none, W, ρ => snd_noPart
  | .some e, W, ρ => snd_part (sndE G e W ρ)
theorem sndI (G : GOk g pg) : ∀ (i : I) (W : WX) (ρ : En), SndI g (tI g pg W i) W ρ (evI pg i ρ)
  | .seq e, W, ρ => snd_items (sndE G e W ρ)
  | .rng1 e, W, ρ => snd_rng1 (snd_cons (sndE G e W ρ) snd_nil)
  | .rng2 a b, W, ρ => snd_rng2 (snd_cons (sndE G a W ρ) (snd_cons (sndE G b W ρ) snd_nil))
theorem sndB (G : GOk g pg) : ∀ (b : B) (W : WX) (ρ : En), SndT g (tB' g pg W b) W ρ (evB pg b ρ)
  | .cmp op a b, W, ρ => snd_test (snd_prim2 (cmp_ok _) (sndE G a W ρ) (sndE G b W ρ))
  | .chain o1 o2 a b c, W, ρ => snd_test (snd_chain (cmp_ok _) (cmp_ok _) (sndE G a W ρ) (sndE G b W ρ) (sndE G c W ρ))
  | .and a r, W, ρ => sndAndT G r W ρ (sndB G a W ρ)
  | .or a r, W, ρ => sndOrT G r W ρ (sndB G a W ρ)
  | .not a, W, ρ => snd_notT (sndB G a W ρ)
  | .val e, W, ρ => snd_truth (sndE G e W ρ)
theorem sndAndT (G : GOk g pg) : ∀ (es : Bs) (W : WX) (ρ : En) {t : TT} {m : M Bool}, SndT g t W ρ m → SndT g (tAndB g pg W t es) W ρ (evAndT pg m es ρ)
  | .nil, W, ρ, t, m, h => h
  | .cons e es, W, ρ, t, m, h => snd_andT h (sndAndT G es W ρ (sndB G e W ρ))
theorem sndOrT (G : GOk g pg) : ∀ (es : Bs) (W : WX) (ρ : En) {t : TT} {m : M Bool}, SndT g t W ρ m → SndT g (tOrB g pg W t es) W ρ (evOrT pg m es ρ)
  | .nil, W, ρ, t, m, h => h
  | .cons e es, W, ρ, t, m, h => snd_orT h (sndOrT G es W ρ (sndB G e W ρ))
theorem sndBo (G : GOk g pg) : ∀ (b : Bo) (W : WX) (ρ : En), SndT g (tBo g pg W b) W ρ (evBo pg b ρ)
  | .none, W, ρ => snd_yes
  | .some b, W, ρ => sndB G b W ρ
end
end TL

namespace TL
open PySem PySem.Spec L2
variable {g : Gc} {pg : Pg}

theorem blk_loc {X : Cx} {s : Shared} {H : Hp} {scope : Scope} {C : Addr} {cl : List (Str × Addr)} {fp : List Addr} (x : Str) (h : (match scope.names.lookup x with | some .local => true | some .cell => true | _ => false) = true) :
    Loc (X.blk s H scope (compEnvC scope cl C X.env) fp).env.scope x ∧ ((X.blk s H scope (compEnvC scope cl C X.env) fp).fn x = true ∨ (X.blk s H scope (compEnvC scope cl C X.env) fp).env.scope.names.lookup x = some .local) := by
  have key : ∀ k, k ≠ .free → scope.names.lookup x = some k → (relS scope X.env.scope).names.lookup x = some k := fun k hk e => by
    unfold relS
    exact lookup_relS_keep hk e
  split at h
  · rename_i e
    have := key .local (by decide) e
    exact ⟨.inl this, .inr this⟩
  · rename_i e
    have := key .cell (by decide) e
    refine ⟨.inr this, .inl ?_⟩
    show (scope.names.lookup x == some .cell) = true
    rw [e]
    rfl
  · cases h
set_option maxHeartbeats 4000000 in
mutual
theorem peE : ∀ (e : E) (c : Ck) (W : WX) (X : Cx) (ast : PySem.Expr), CtxOk g pg c W X → chkE c e ast = true → PE X ast (tE g pg W e)
  | .var i, c, W, X, ast, ok, h => by
    cases ast <;> simp only [chkE, nameB, Bool.false_eq_true] at h
    simp only [Bool.and_eq_true, decide_eq_true_eq] at h
    have n := ndb_of h.2
    exact pe_var (by rw [ok.N]; exact h.1.1) (by rw [ok.sc]; exact vis_of h.1.2) n.1 n.2.1
  | .int i, c, W, X, ast, ok, h => by
    cases ast <;> try (simp only [chkE, Bool.false_eq_true] at h; done)
    rename_i v k pos
    cases v <;> simp only [chkE, Bool.false_eq_true, decide_eq_true_eq] at h
    subst h
    exact pe_int
  | .bl i, c, W, X, ast, ok, h => by
    cases ast <;> try (simp only [chkE, Bool.false_eq_true] at h; done)
    rename_i v k pos
    cases v <;> simp only [chkE, Bool.false_eq_true, beq_iff_eq] at h
    subst h
    exact pe_bl
  | .non, c, W, X, ast, ok, h => by
    cases ast <;> try (simp only [chkE, Bool.false_eq_true] at h; done)
    rename_i v k pos
    cases v <;> simp only [chkE, Bool.false_eq_true] at h
    exact pe_non
  | .str i, c, W, X, ast, ok, h => by
    cases ast <;> try (simp only [chkE, Bool.false_eq_true] at h; done)
    rename_i v k pos
    cases v <;> simp only [chkE, Bool.false_eq_true, decide_eq_true_eq] at h
    subst h
    exact pe_str
  | .glob k, c, W, X, ast, ok, h => by
    cases ast <;> simp only [chkE, Bool.false_eq_true] at h
    rename_i x pos
    simp only [Bool.and_eq_true, decide_eq_true_eq] at h
    have hg : Gl X x := gl_of (by rw [ok.sc]; exact h.1.2)
    have n := ndb_of h.2
    obtain ⟨u, h1, h2⟩ := ok.cst k x h.1.1
    exact pe_glob hg h1 h2 n.1
  | .bin op a b, c, W, X, ast, ok, h => by
    cases ast <;> simp only [chkE, Bool.false_eq_true] at h
    simp only [Bool.and_eq_true, decide_eq_true_eq] at h
    obtain ⟨⟨rfl, h1⟩, h2⟩ := h
    exact pe_op (bin_rule _) (peE a c W X _ ok h1) (peE b c W X _ ok h2)
  | .neg a, c, W, X, ast, ok, h => by
    cases ast <;> try (simp only [chkE, Bool.false_eq_true] at h; done)
    rename_i op x pos
    cases op <;> simp only [chkE, Bool.false_eq_true] at h
    exact pe_un un_neg (peE a c W X _ ok h)
  | .cmp op a b, c, W, X, ast, ok, h => by
    cases ast <;> try (simp only [chkE, Bool.false_eq_true] at h; done)
    rename_i l ops rs pos
    match ops, rs, h with
    | [o], [r], h =>
      simp only [chkE, Bool.and_eq_true, decide_eq_true_eq] at h
      obtain ⟨⟨⟨rfl, h1⟩, h2⟩, h3⟩ := h
      have hr := cmp_rule ok.hu op
      rw [ok.K] at hr
      exact pe_cmpR hr (peE a c W X _ ok h1) (peE b c W X _ ok h2) (mark_ok h3)
  | .chain o1 o2 a b d, c, W, X, ast, ok, h => by
    cases ast <;> try (simp only [chkE, Bool.false_eq_true] at h; done)
    rename_i l ops rs pos
    match ops, rs, h with
    | [p1, p2], [r, s], h =>
      simp only [chkE, Bool.and_eq_true, decide_eq_true_eq] at h
      obtain ⟨⟨⟨⟨⟨rfl, rfl⟩, h1⟩, h2⟩, h3⟩, h4⟩ := h
      have hr1 := cmp_rule ok.hu o1
      have hr2 := cmp_rule ok.hu o2
      rw [ok.K] at hr1 hr2
      exact pe_chain hr1 hr2 (peE a c W X _ ok h1) (peE b c W X _ ok h2) (peE d c W X _ ok h3) (marks_ok h4)
  | .and a r, c, W, X, ast, ok, h => by
    cases ast <;> try (simp only [chkE, Bool.false_eq_true] at h; done)
    rename_i op xs pos
    match op, xs, h with
    | .And, x :: xs, h =>
      simp only [chkE, Bool.and_eq_true] at h
      exact peAnd r c W X x xs pos ok (peE a c W X _ ok h.1) h.2
  | .or a r, c, W, X, ast, ok, h => by
    cases ast <;> try (simp only [chkE, Bool.false_eq_true] at h; done)
    rename_i op xs pos
    match op, xs, h with
    | .Or, x :: xs, h =>
      simp only [chkE, Bool.and_eq_true] at h
      exact peOr r c W X x xs pos ok (peE a c W X _ ok h.1) h.2
  | .not a, c, W, X, ast, ok, h => by
    cases ast <;> try (simp only [chkE, Bool.false_eq_true] at h; done)
    rename_i op x pos
    cases op <;> simp only [chkE, Bool.false_eq_true] at h
    exact pe_not (peE a c W X _ ok h)
  | .ite t a b, c, W, X, ast, ok, h => by
    cases ast <;> simp only [chkE, Bool.false_eq_true] at h
    simp only [Bool.and_eq_true] at h
    exact pe_ifExp (ptB t c W X _ ok h.1.1) (peE a c W X _ ok h.1.2) (peE b c W X _ ok h.2)
  | .tup es, c, W, X, ast, ok, h => by
    cases ast <;> simp only [chkE, Bool.false_eq_true] at h
    simp only [Bool.and_eq_true] at h
    exact pe_tup (paEs es c W X _ ok h.1 h.2)
  | .lst es, c, W, X, ast, ok, h => by
    cases ast <;> simp only [chkE, Bool.false_eq_true] at h
    simp only [Bool.and_eq_true] at h
    exact pe_lst (paEs es c W X _ ok h.1 h.2)
  | .idx a b, c, W, X, ast, ok, h => by
    cases ast <;> simp only [chkE, Bool.false_eq_true] at h
    simp only [Bool.and_eq_true] at h
    have hr : IxR X (rIx g.K) := by
      have := ix_seq (X := X)
      rw [ok.K] at this
      exact this
    exact pe_ix hr (peE a c W X _ ok h.1.1) (peE b c W X _ ok h.1.2) (plain_ix h.2)
  | .slice a lo hi, c, W, X, ast, ok, h => by
    cases ast <;> try (simp only [chkE, Bool.false_eq_true] at h; done)
    rename_i x y pos
    cases y <;> try (simp only [chkE, Bool.false_eq_true] at h; done)
    rename_i l u st p2
    cases st <;> simp only [chkE, Bool.false_eq_true] at h
    simp only [Bool.and_eq_true] at h
    have hr : SlR X (rSl g.K) := by
      have := sl_rule (X := X)
      rw [ok.K] at this
      exact this
    exact pe_slice hr (peE a c W X _ ok h.1.1) (poEo lo c W X _ ok h.1.2) (poEo hi c W X _ ok h.2)
  | .blt b e es, c, W, X, ast, ok, h => by
    cases ast <;> try (simp only [chkE, Bool.false_eq_true] at h; done)
    rename_i fn args kws pos
    cases fn <;> try (simp only [chkE, Bool.false_eq_true] at h; done)
    rename_i x p
    match args, kws, h with
    | y :: ys, [], h =>
      simp only [chkE, Bool.and_eq_true, decide_eq_true_eq] at h
      obtain ⟨⟨⟨⟨⟨hx, hgl⟩, hb⟩, h1⟩, h2⟩, h3⟩ := h
      have hg : Gl X x := gl_of (by rw [ok.sc]; exact hgl)
      have pa := pa_cons (peE e c W X _ ok h1) (paEs es c W X _ ok h2 (noStar_tail h3)) (star_cons h3)
      have hr := blt_rule (X := X) ok.calm b
      rw [ok.K] at hr
      have dn : (x == ("__debug__" : Str)) = false ∧ x ≠ "__name__" := by
        subst hx
        cases b <;> decide +kernel
      cases b with
      | gcd => exact pe_callBfun hr hg (ok.bf x "math.gcd" (by simpa using hb)) pa dn.1 (star_cons h3) (star_any (noStar_tail h3))
      | len => exact pe_callB hr hg (ok.fr x (by simpa using hb)) (by rw [hx]; exact blt_boot .len (fun z => nomatch z)) pa dn.2 dn.1 (star_cons h3) (star_any (noStar_tail h3))
      | abs => exact pe_callB hr hg (ok.fr x (by simpa using hb)) (by rw [hx]; exact blt_boot .abs (fun z => nomatch z)) pa dn.2 dn.1 (star_cons h3) (star_any (noStar_tail h3))
      | max => exact pe_callB hr hg (ok.fr x (by simpa using hb)) (by rw [hx]; exact blt_boot .max (fun z => nomatch z)) pa dn.2 dn.1 (star_cons h3) (star_any (noStar_tail h3))
      | min => exact pe_callB hr hg (ok.fr x (by simpa using hb)) (by rw [hx]; exact blt_boot .min (fun z => nomatch z)) pa dn.2 dn.1 (star_cons h3) (star_any (noStar_tail h3))
      | int => exact pe_callTy hr hg (ok.fr x (by simpa using hb)) (by rw [hx]; exact blt_boot .int (fun z => nomatch z)) pa dn.2 dn.1 (star_cons h3) (star_any (noStar_tail h3))
      | str => exact pe_callTy hr hg (ok.fr x (by simpa using hb)) (by rw [hx]; exact blt_boot .str (fun z => nomatch z)) pa dn.2 dn.1 (star_cons h3) (star_any (noStar_tail h3))
      | list => exact pe_callTy hr hg (ok.fr x (by simpa using hb)) (by rw [hx]; exact blt_boot .list (fun z => nomatch z)) pa dn.2 dn.1 (star_cons h3) (star_any (noStar_tail h3))
  | .isT tt a, c, W, X, ast, ok, h => by
    cases ast <;> try (simp only [chkE, Bool.false_eq_true] at h; done)
    rename_i fn args kws pos
    cases fn <;> try (simp only [chkE, Bool.false_eq_true] at h; done)
    rename_i x p
    match args, kws, h with
    | [y, .Name z pz], [], h =>
      simp only [chkE, Bool.and_eq_true, decide_eq_true_eq] at h
      obtain ⟨⟨⟨⟨⟨⟨⟨⟨⟨hx, hgl⟩, hfr⟩, h1⟩, h2⟩, hz⟩, hgz⟩, hfz⟩, hnd⟩, hbt⟩ := h
      have hg : Gl X x := gl_of (by rw [ok.sc]; exact hgl)
      have hgz' : Gl X z := gl_of (by rw [ok.sc]; exact hgz)
      have n := ndb_of hnd
      have ns : noStar [y, .Name z pz] = true := by
        cases y <;> first | rfl | (simp [noStar] at h2)
      have pz' : PE X (.Name z pz) (tC (.ty tt)) := pe_bltn hgz' (ok.fr z (by simpa using hfz)) hbt rfl n.2.2 n.1
      have pa := pa_cons (peE a c W X _ ok h1) (pa_cons pz' pa_nil (star_cons rfl)) (star_cons ns)
      have hr := call_isi (X := X)
      rw [ok.K] at hr
      have dn : (x == ("__debug__" : Str)) = false ∧ x ≠ "__name__" := by
        subst hx
        decide +kernel
      exact pe_callB hr hg (ok.fr x (by simpa using hfr)) (by rw [hx]; decide +kernel) pa dn.2 dn.1 (star_cons ns) (star_any (noStar_tail ns))
  | .call f e es, c, W, X, ast, ok, h => by
    cases ast <;> try (simp only [chkE, Bool.false_eq_true] at h; done)
    rename_i fn args kws pos
    cases fn <;> try (simp only [chkE, Bool.false_eq_true] at h; done)
    rename_i x p
    match args, kws, h with
    | y :: ys, [], h =>
      simp only [chkE, Bool.and_eq_true, decide_eq_true_eq] at h
      obtain ⟨⟨⟨⟨⟨hx, hgl⟩, hnd⟩, h1⟩, h2⟩, h3⟩ := h
      have hg : Gl X x := gl_of (by rw [ok.sc]; exact hgl)
      have n := ndb_of hnd
      obtain ⟨fa, fd, ps, lv, h4, h5, h6, h7, h8⟩ := ok.fn f x hx
      exact pe_callS h5 h6 hg h4 h7 h8 ok.px (pa_cons (peE e c W X _ ok h1) (paEs es c W X _ ok h2 (noStar_tail h3)) (star_cons h3)) n.1 (star_cons h3) (star_any (noStar_tail h3))
  | .fld cl k a, c, W, X, ast, ok, h => by
    cases ast <;> simp only [chkE, Bool.false_eq_true] at h
    rename_i x f pos
    simp only [Bool.and_eq_true, decide_eq_true_eq] at h
    have := pe_fld (X := X) (pos := pos) (f := f) (peE a c W X _ ok h.1.2) (abase h.2)
    rw [ok.K] at this
    have e := ok.fld cl k f h.1.1
    have e2 : (g.flds cl).getD k "" = f := by rw [List.getD_eq_getElem?_getD, e]; rfl
    simp only [tE, e2]
    exact this
  | .m1 m a b, c, W, X, ast, ok, h => by
    cases ast <;> try (simp only [chkE, Bool.false_eq_true] at h; done)
    rename_i fn args kws pos
    cases fn <;> try (simp only [chkE, Bool.false_eq_true] at h; done)
    rename_i o f ap
    match args, kws, h with
    | [y], [], h =>
      simp only [chkE, Bool.and_eq_true, decide_eq_true_eq] at h
      obtain ⟨⟨⟨⟨⟨rfl, h1⟩, h2⟩, h3⟩, h4⟩, h5⟩ := h
      have e1 : starEach [y] X.env = [(false, eval y X.env)] := star_cons h4
      have pa := peE a c W X _ ok h1
      have pb := peE b c W X _ ok h3
      cases m with
      | split => exact pe_m1 PySem.F.slot_str_split PySem.F.type_str_split mt_split pa pb e1 (abase h2) h5
      | starts => exact pe_m1 PySem.F.slot_str_startswith PySem.F.type_str_startswith mt_startswith pa pb e1 (abase h2) h5
      | join =>
        have := pe_m1 (X := X) PySem.F.slot_str_join PySem.F.type_str_join mt_join pa pb e1 (abase h2) h5
        rw [ok.K] at this
        exact this
  | .bits a, c, W, X, ast, ok, h => by
    cases ast <;> try (simp only [chkE, Bool.false_eq_true] at h; done)
    rename_i fn args kws pos
    cases fn <;> try (simp only [chkE, Bool.false_eq_true] at h; done)
    rename_i o f ap
    match args, kws, h with
    | [], [], h =>
      simp only [chkE, Bool.and_eq_true, decide_eq_true_eq] at h
      obtain ⟨⟨⟨rfl, h1⟩, h2⟩, h3⟩ := h
      exact pe_bits (peE a c W X _ ok h1) (abase h2) h3
  | .comp elt tg it cond vs, c, W, X, ast, ok, h => by
    cases ast <;> try (simp only [chkE, Bool.false_eq_true] at h; done)
    rename_i x gens scope pos
    match gens, h with
    | [⟨t, i, ifs, 0⟩], h =>
      simp only [chkE, Bool.and_eq_true, decide_eq_true_eq] at h
      obtain ⟨⟨⟨⟨⟨⟨h1, h2⟩, h3⟩, h4⟩, h5⟩, h6⟩, h7⟩ := h
      have bk : BlkOk X.N X.env.scope scope (ownOf c vs) := by
        rw [ok.N, ok.sc]
        exact blkOk_by h2
      have ns : noSet i = true := by
        cases it with
        | seq e => simp only [chkI, Bool.and_eq_true] at h5; exact h5.2
        | rng1 e => cases i <;> first | rfl | (simp [chkI] at h5)
        | rng2 a b => cases i <;> first | rfl | (simp [chkI] at h5)
      have := pe_lc (pos := pos) ok.calm (by rw [ok.N]; exact ok.nd) (piI it c W X t i ok h5) bk (fun s H C cl fp => tg_ok (g := g) (c := c) (sc := scope) (X := X.blk s H scope (compEnvC scope cl C X.env) fp) ok.K ok.N ok.nd ok.calm (fun y hy => blk_loc y hy) h4)
        (fun s H C cl fp => ptBo cond _ W0 (X.blk s H scope (compEnvC scope cl C X.env) fp) ifs (ok.blk s H scope C cl fp) h6)
        (fun s H C cl fp => peE elt _ W0 (X.blk s H scope (compEnvC scope cl C X.env) fp) x (ok.blk s H scope C cl fp) h7) (folded_ok ns)
      rw [h1] at this
      simp only [tE]
      cases tg <;> exact this
theorem paEs : ∀ (es : Es) (c : Ck) (W : WX) (X : Cx) (asts : List PySem.Expr), CtxOk g pg c W X → chkEs c es asts = true → noStar asts = true → PA X asts (tEs g pg W es)
  | .nil, c, W, X, asts, ok, h, ns => by
    cases asts with
    | nil => exact pa_nil
    | cons a as => simp [chkEs] at h
  | .cons e es, c, W, X, asts, ok, h, ns => by
    cases asts with
    | nil => simp [chkEs] at h
    | cons a as =>
      simp only [chkEs, Bool.and_eq_true] at h
      exact pa_cons (peE e c W X _ ok h.1) (paEs es c W X _ ok h.2 (noStar_tail ns)) (star_cons ns)
theorem peAnd : ∀ (r : Es) (c : Ck) (W : WX) (X : Cx) (x : PySem.Expr) (xs : List PySem.Expr) (pos : Pos) {t : TE}, CtxOk g pg c W X → PE X x t → chkEs c r xs = true → PE X (.BoolOp .And (x :: xs) pos) (tAndL g pg W t r)
  | .nil, c, W, X, x, xs, pos, t, ok, p, h => by
    cases xs with
    | nil => exact pe_one p
    | cons a as => simp [chkEs] at h
  | .cons e es, c, W, X, x, xs, pos, t, ok, p, h => by
    cases xs with
    | nil => simp [chkEs] at h
    | cons a as =>
      simp only [chkEs, Bool.and_eq_true] at h
      exact pe_and p (peAnd es c W X a as pos ok (peE e c W X _ ok h.1) h.2)
theorem peOr : ∀ (r : Es) (c : Ck) (W : WX) (X : Cx) (x : PySem.Expr) (xs : List PySem.Expr) (pos : Pos) {t : TE}, CtxOk g pg c W X → PE X x t → chkEs c r xs = true → PE X (.BoolOp .Or (x :: xs) pos) (tOrL g pg W t r)
  | .nil, c, W, X, x, xs, pos, t, ok, p, h => by
    cases xs with
    | nil => exact pe_one p
    | cons a as => simp [chkEs] at h
  | .cons e es, c, W, X, x, xs, pos, t, ok, p, h => by
    cases xs with
    | nil => simp [chkEs] at h
    | cons a as =>
      simp only [chkEs, Bool.and_eq_true] at h
      exact pe_or p (peOr es c W X a as pos ok (peE e c W X _ ok h.1) h.2)
theorem poEo : ∀ (e : Eo) (c : Ck) (W : WX) (X : Cx) (ast : Option PySem.Expr), CtxOk g pg c W X → chkEo c e ast = true → PO X ast (tEo g pg W e)
  | .none, c, W, X, ast, ok, h => by
    cases ast with
    | none => exact po_none
    | some a => simp [chkEo] at h
  | .some e, c, W, X, ast, ok, h => by
    cases ast with
    | none => simp [chkEo] at h
    | some a => exact po_some (peE e c W X _ ok (by simpa only [chkEo] using h))
theorem piI : ∀ (i : I) (c : Ck) (W : WX) (X : Cx) (tg ast : PySem.Expr), CtxOk g pg c W X → chkI c i ast = true → PI X tg ast (tI g pg W i)
  | .seq e, c, W, X, tg, ast, ok, h => by
    simp only [chkI, Bool.and_eq_true] at h
    have := pi_any (tg := tg) (peE e c W X _ ok h.1)
    rw [ok.K] at this
    exact this
  | .rng1 e, c, W, X, tg, ast, ok, h => by
    cases ast <;> try (simp only [chkI, Bool.false_eq_true] at h; done)
    rename_i fn args kws pos
    cases fn <;> try (simp only [chkI, Bool.false_eq_true] at h; done)
    rename_i x p
    match args, kws, h with
    | [y], [], h =>
      simp only [chkI, Bool.and_eq_true, decide_eq_true_eq] at h
      obtain ⟨⟨⟨⟨hx, hgl⟩, hf⟩, h1⟩, h2⟩ := h
      subst hx
      have hg : Gl X "range" := gl_of (by rw [ok.sc]; exact hgl)
      exact pi_range1 hg (ok.fr _ (by simpa using hf)) (pa_cons (peE e c W X _ ok h1) pa_nil (star_cons h2)) (star_cons h2)
  | .rng2 a b, c, W, X, tg, ast, ok, h => by
    cases ast <;> try (simp only [chkI, Bool.false_eq_true] at h; done)
    rename_i fn args kws pos
    cases fn <;> try (simp only [chkI, Bool.false_eq_true] at h; done)
    rename_i x p
    match args, kws, h with
    | [y, z], [], h =>
      simp only [chkI, Bool.and_eq_true, decide_eq_true_eq] at h
      obtain ⟨⟨⟨⟨⟨hx, hgl⟩, hf⟩, h1⟩, h2⟩, h3⟩ := h
      subst hx
      have hg : Gl X "range" := gl_of (by rw [ok.sc]; exact hgl)
      have e2 : starEach [z] X.env = [(false, eval z X.env)] := star_cons (noStar_tail h3)
      have e1 : starEach [y, z] X.env = [(false, eval y X.env), (false, eval z X.env)] := by rw [star_cons h3, e2]
      exact pi_range2 hg (ok.fr _ (by simpa using hf)) (pa_cons (peE a c W X _ ok h1) (pa_cons (peE b c W X _ ok h2) pa_nil (star_cons (noStar_tail h3))) (star_cons h3)) e1 e2
theorem ptB : ∀ (b : B) (c : Ck) (W : WX) (X : Cx) (ast : PySem.Expr), CtxOk g pg c W X → chkB c b ast = true → PT X ast (tB' g pg W b)
  | .cmp op a b, c, W, X, ast, ok, h => by
    cases ast <;> try (simp only [chkB, Bool.false_eq_true] at h; done)
    rename_i l ops rs pos
    match ops, rs, h with
    | [o], [r], h =>
      simp only [chkB, Bool.and_eq_true, decide_eq_true_eq] at h
      obtain ⟨⟨⟨rfl, h1⟩, h2⟩, h3⟩ := h
      have hr := cmp_rule ok.hu op
      rw [ok.K] at hr
      exact pt_cmpR hr (peE a c W X _ ok h1) (peE b c W X _ ok h2) (mark_ok h3)
  | .chain o1 o2 a b d, c, W, X, ast, ok, h => by
    cases ast <;> try (simp only [chkB, Bool.false_eq_true] at h; done)
    rename_i l ops rs pos
    match ops, rs, h with
    | [p1, p2], [r, s], h =>
      simp only [chkB, Bool.and_eq_true, decide_eq_true_eq] at h
      obtain ⟨⟨⟨⟨⟨rfl, rfl⟩, h1⟩, h2⟩, h3⟩, h4⟩ := h
      have hr1 := cmp_rule ok.hu o1
      have hr2 := cmp_rule ok.hu o2
      rw [ok.K] at hr1 hr2
      exact pt_chain hr1 hr2 (peE a c W X _ ok h1) (peE b c W X _ ok h2) (peE d c W X _ ok h3) (marks_ok h4)
  | .and a r, c, W, X, ast, ok, h => by
    cases ast <;> try (simp only [chkB, Bool.false_eq_true] at h; done)
    rename_i op xs pos
    match op, xs, h with
    | .And, x :: xs, h =>
      simp only [chkB, Bool.and_eq_true] at h
      exact (pwAnd r c W X x xs pos ok (ptB a c W X _ ok h.1) h.2).pt
  | .or a r, c, W, X, ast, ok, h => by
    cases ast <;> try (simp only [chkB, Bool.false_eq_true] at h; done)
    rename_i op xs pos
    match op, xs, h with
    | .Or, x :: xs, h =>
      simp only [chkB, Bool.and_eq_true] at h
      exact (pwOr r c W X x xs pos ok (ptB a c W X _ ok h.1) h.2).pt
  | .not a, c, W, X, ast, ok, h => by
    cases ast <;> try (simp only [chkB, Bool.false_eq_true] at h; done)
    rename_i op x pos
    cases op <;> simp only [chkB, Bool.false_eq_true] at h
    exact pt_not (ptB a c W X _ ok h)
  | .val e, c, W, X, ast, ok, h => by
    simp only [chkB, Bool.and_eq_true] at h
    have := pt_truth (peE e c W X _ ok h.1) (plainT_ok h.2)
    rw [ok.K] at this
    exact this
theorem pwAnd : ∀ (r : Bs) (c : Ck) (W : WX) (X : Cx) (x : PySem.Expr) (xs : List PySem.Expr) (pos : Pos) {t : TT}, CtxOk g pg c W X → PT X x t → chkBs c r xs = true → PW X (.BoolOp .And (x :: xs) pos) (tAndB g pg W t r)
  | .nil, c, W, X, x, xs, pos, t, ok, p, h => by
    cases xs with
    | nil => exact pw_and1 p
    | cons a as => simp [chkBs] at h
  | .cons e es, c, W, X, x, xs, pos, t, ok, p, h => by
    cases xs with
    | nil => simp [chkBs] at h
    | cons a as =>
      simp only [chkBs, Bool.and_eq_true] at h
      exact pw_and p (pwAnd es c W X a as pos ok (ptB e c W X _ ok h.1) h.2)
theorem pwOr : ∀ (r : Bs) (c : Ck) (W : WX) (X : Cx) (x : PySem.Expr) (xs : List PySem.Expr) (pos : Pos) {t : TT}, CtxOk g pg c W X → PT X x t → chkBs c r xs = true → PW X (.BoolOp .Or (x :: xs) pos) (tOrB g pg W t r)
  | .nil, c, W, X, x, xs, pos, t, ok, p, h => by
    cases xs with
    | nil => exact pw_or1 p
    | cons a as => simp [chkBs] at h
  | .cons e es, c, W, X, x, xs, pos, t, ok, p, h => by
    cases xs with
    | nil => simp [chkBs] at h
    | cons a as =>
      simp only [chkBs, Bool.and_eq_true] at h
      exact pw_or p (pwOr es c W X a as pos ok (ptB e c W X _ ok h.1) h.2)
theorem ptBo : ∀ (b : Bo) (c : Ck) (W : WX) (X : Cx) (ifs : List PySem.Expr), CtxOk g pg c W X → chkBo c b ifs = true → PTs X ifs (tBo g pg W b)
  | .none, c, W, X, ifs, ok, h => by
    cases ifs with
    | nil => exact pts_nil
    | cons a as => simp [chkBo] at h
  | .some b, c, W, X, ifs, ok, h => by
    match ifs, h with
    | [x], h => exact pts_one (ptB b c W X _ ok (by simpa only [chkBo] using h))
end
end TL

namespace TL
open PySem PySem.Spec L2
variable {g : Gc} {B B1 : Hp} {Z : Addr → Prop} {F : List Addr} {ρ : En} {σ : Sg} {H H' H1 H2 : Hp} {W : WX}

/-! ### how a statement ends -/
inductive Ou where
  | stuck | nx (ρ : En) | brk (ρ : En) | cnt (ρ : En) | ret (o : O) | rai (c : Nat) (p : Option Int) (ρ : En)
/-- the state over a base that stays -/
structure StB (g : Gc) (B : Hp) (Z : Addr → Prop) (F : List Addr) (ρ : En) (σ : Sg) (H : Hp) : Prop where
  st : StE g Z F ρ σ H
  same : Same B H
  out : ∀ a ∈ F, B a = none
theorem StB.base (s : StB g B1 Z F ρ σ H) (k : Same B B1) : StB g B Z F ρ σ H := ⟨s.st, k.trans s.same, fun a ha => k.free (s.out a ha)⟩
theorem StB.ext (s : StB g B Z F ρ σ H) (k : Same H H') : StB g B Z F ρ σ H' := ⟨s.st.ext0 k, s.same.trans k, s.out⟩
/-- the base of a loop -/
noncomputable def lpB (F : List Addr) (H : Hp) : Hp := hid (fun a => a ∈ F) H
theorem StB.loop (s : StB g B Z F ρ σ H) : StB g (lpB F H) Z F ρ σ H ∧ Same B (lpB F H) := by
  refine ⟨⟨s.st, hid_sub, fun a ha => ?_⟩, fun a u e => hid_some.mpr (And.intro (fun z => ?_) (s.same a u e))⟩
  · cases e : lpB F H a with
    | none => rfl
    | some u => exact absurd ha (hid_some.mp e).1
  · rw [s.out a z] at e; cases e
def RetOk (g : Gc) (B : Hp) (Z : Addr → Prop) (o : O) (v : V) (H' : Hp) : Prop := ∃ f, Same B H' ∧ f.Nodup ∧ (∀ a ∈ f, B a = none) ∧ ORep g (hid (fun a => a ∈ f ∨ Z a) H') H' o v f
def Post (g : Gc) (W : WX) (B : Hp) (Z : Addr → Prop) (D : Ends) : Ou → Prop
  | .stuck => False
  | .nx ρ => ∀ σ' H' F', StB g B Z F' ρ σ' H' → D.nx σ' H'
  | .brk ρ => ∀ σ' H' F', StB g B Z F' ρ σ' H' → D.bk σ' H'
  | .cnt ρ => ∀ σ' H' F', StB g B Z F' ρ σ' H' → D.ct σ' H'
  | .ret o => ∀ v H', RetOk g B Z o v H' → D.rt v H'
  | .rai c p ρ => ∀ d σ' H' F', StB g B Z F' ρ σ' H' → ExcOk g B H' p d → W (.ref (g.cls c)) d σ' H'
def SndS (g : Gc) (t : TS) (W : WX) (ρ : En) (o : Ou) : Prop := ∀ σ H Z B F D, StB g B Z F ρ σ H → Post g W B Z D o → t D σ H
theorem snd_stuck {t : TS} : SndS g t W ρ .stuck := fun σ H Z B F D st h => h.elim
/-- a smaller base asks for no less -/
theorem RetOk.base {o : O} {v : V} (k : Same B B1) (h : RetOk g B1 Z o v H') : RetOk g B Z o v H' := by
  obtain ⟨f, h1, h2, h3, h4⟩ := h
  exact ⟨f, k.trans h1, h2, fun a ha => k.free (h3 a ha), h4⟩
theorem Post.base {D : Ends} {o : Ou} (k : Same B B1) (h : Post g W B Z D o) : Post g W B1 Z D o := by
  cases o with
  | stuck => exact h
  | nx ρ => exact fun σ' H' F' s => h σ' H' F' (s.base k)
  | brk ρ => exact fun σ' H' F' s => h σ' H' F' (s.base k)
  | cnt ρ => exact fun σ' H' F' s => h σ' H' F' (s.base k)
  | ret o => exact fun v H' r => h v H' (r.base k)
  | rai c p ρ => exact fun d σ' H' F' s x => h d σ' H' F' (s.base k) (x.pre k)

/-! ### blocks, tests -/
def seqO (o : Ou) (k : En → Ou) : Ou := match o with
  | .nx ρ => k ρ
  | o => o
theorem snd_next : SndS g tNext W ρ (.nx ρ) := fun σ H Z B F D st h => h σ H F st
theorem snd_brk : SndS g tBreak W ρ (.brk ρ) := fun σ H Z B F D st h => h σ H F st
theorem snd_cnt : SndS g tCont W ρ (.cnt ρ) := fun σ H Z B F D st h => h σ H F st
theorem snd_seq {t u : TS} {o : Ou} {k : En → Ou} (h1 : SndS g t W ρ o) (h2 : ∀ ρ', SndS g u W ρ' (k ρ')) : SndS g (tSeq t u) W ρ (seqO o k) := by
  intro σ H Z B F D st h
  refine h1 σ H Z B F _ st ?_
  cases o with
  | nx ρ' => exact fun σ' H' F' s => h2 ρ' σ' H' Z B F' D s h
  | stuck => exact h
  | brk ρ' => exact h
  | cnt ρ' => exact h
  | ret o => exact h
  | rai c p ρ' => exact h
def onM {α : Type} (m : M α) (ρ : En) (k : α → Ou) : Ou := match m with
  | .stuck => .stuck
  | .ok a => k a
  | .rai c p => .rai c p ρ
theorem excOk_base {p : Option Int} {d : Option Addr} (s : StB g B Z F ρ σ H) (x : ExcOk g H H' p d) : ExcOk g B H' p d := x.pre s.same
theorem snd_ifS {tc : TT} {t u : TS} {m : M Bool} {o1 o2 : Ou} (hc : SndT g tc W ρ m) (h1 : SndS g t W ρ o1) (h2 : SndS g u W ρ o2) : SndS g (tIfS tc t u) W ρ (onM m ρ fun b => if b = true then o1 else o2) := by
  intro σ H Z B F D st h
  cases m with
  | stuck => exact h.elim
  | rai c p => exact hc σ H Z F _ st.st fun d H' s x => h d σ H' F (st.ext s) (excOk_base st x)
  | ok b =>
    refine hc σ H Z F _ st.st fun H' s => ?_
    cases b with
    | true => exact h1 σ H' Z B F D (st.ext s) h
    | false => exact h2 σ H' Z B F D (st.ext s) h

/-! ### stores -/
theorem StB.of_slots {ρ' : En} {σ' : Sg} {F' : List Addr} {P : Addr → Prop} (s : StB g B Z F ρ σ H) (k : Same H H') (nd : F'.Nodup) (dz : ∀ a ∈ F', ¬ Z a) (out : ∀ a ∈ F', B a = none) (hp : ∀ a u, H' a = some u → a ∈ F' ∨ Z a → P a) (sl : Slots g (hid P H') H' ρ' σ' F') : StB g B Z F' ρ' σ' H' :=
  ⟨⟨nd, dz, fun a z e => s.st.zd a z (k.free e), Slots.mono (hid_mono (Same.refl _) hp) _ _ _ (fun a _ u e => e) sl⟩, s.same.trans k, out⟩
theorem StB.soft (s : StB g B Z F ρ σ H) : ∀ a ∈ F, Soft H a := s.st.soft
/-- a result, ready to be stored -/
theorem PR.sto (s : StB g B Z F ρ σ H) {r : R} {o : O} {v : V} {f : List Addr} (p : PR g Z F H r v H' f) (e : r.o = some o) :
    ORep g (hid (fun a => a ∈ f ∨ a ∈ F ∨ Z a) H') H' o v f ∧ Slots g (hid (fun a => a ∈ f ∨ a ∈ F ∨ Z a) H') H' ρ σ F ∧ (f ++ F).Nodup ∧ (∀ a ∈ f, ¬ Z a ∧ B a = none) := by
  refine ⟨RR.o s.st p.same p.fr e p.rr, Slots.mono (hid_mono (Same.refl _) fun a u e z => ?_) _ _ _ (fun a _ u e => e) (s.st.ext p.same p.fr p.al).sl, ?_, fun a ha => ⟨fun z => s.st.zd a z (p.fr a ha), s.same.free (p.fr a ha)⟩⟩
  · rcases z with z | z | z
    · exact .inr (.inl z)
    · exact .inl z
    · exact .inr (.inr z)
  · rw [List.nodup_append]
    refine ⟨p.nd, s.st.nd, fun x hx y hy e => ?_⟩
    subst e
    obtain ⟨u, q⟩ := (s.soft x hy).some
    rw [p.fr x hx] at q; cases q
theorem StB.put (s : StB g B Z F ρ σ H) {r : R} {o : O} {v : V} {f : List Addr} {i : Nat} (hi : i < ρ.length) (p : PR g Z F H r v H' f) (e : r.o = some o) : ∃ F', StB g B Z F' (ρ.set i (some o)) (σ.set i (some v)) H' := by
  obtain ⟨k1, k2, k3, k4⟩ := p.sto s e
  obtain ⟨F', k5, k6, k7⟩ := Slots.set k1 ρ σ F i k2 hi
  refine ⟨F', s.of_slots p.same (k7 k3) (fun a ha => ?_) (fun a ha => ?_) (fun a u e z => ?_) k5⟩
  · rcases k6 a ha with z | z
    · exact (k4 a z).1
    · exact s.st.dj a z
  · rcases k6 a ha with z | z
    · exact (k4 a z).2
    · exact s.out a z
  · rcases z with z | z
    · rcases k6 a z with z | z
      · exact .inl z
      · exact .inr (.inl z)
    · exact .inr (.inr z)
theorem set_self {α : Type} {l : List α} {i : Nat} {x : α} (h : l[i]? = some x) : l.set i x = l := by
  apply List.ext_getElem?
  intro j
  rw [List.getElem?_set]
  split
  · rename_i hj
    subst hj
    rw [h]
    have := (List.getElem?_eq_some_iff.mp h).1
    simp [this]
  · rfl
/-- what a slot owned is everybody's from now on -/
theorem StB.share (s : StB g B Z F ρ σ H) {i : Nat} {o : O} (e : ρ[i]? = some (some o)) : ∃ F', StB g B Z F' (ρ.set i (some (.sh o.d))) σ H := by
  obtain ⟨v, f0, f', e1, e2, e3, e4, e5⟩ := Slots.take ρ σ F i s.st.sl e
  have nd := e5 s.st.nd
  have dis : ∀ a ∈ f0, a ∉ f' := fun a ha hb => (List.nodup_append.mp nd).2.2 a ha a hb rfl
  have rep : Rep g (hid (fun a => a ∈ f' ∨ Z a) H) o.d v := ORep.view (hid_mono (Same.refl _) fun a u e z => by
    rcases z with z | z
    · exact .inl ((e4 a).mpr (.inr z))
    · exact .inr z) o v f0 (fun a ha u e => hid_some.mpr (And.intro (fun z => by
    rcases z with z | z
    · exact dis a ha z
    · exact s.st.dj a ((e4 a).mpr (.inl ha)) z) e)) e2
  have sl2 : Slots g (hid (fun a => a ∈ f' ∨ Z a) H) H (ρ.set i none) σ f' := Slots.mono (hid_mono (Same.refl _) fun a u e z => by
    rcases z with z | z
    · exact .inl ((e4 a).mpr (.inr z))
    · exact .inr z) _ _ _ (fun a _ u e => e) e3
  have li : i < (ρ.set i none).length := by
    rw [List.length_set]
    exact (List.getElem?_eq_some_iff.mp e).1
  have ho : ORep g (hid (fun a => a ∈ f' ∨ Z a) H) H (.sh o.d) v [] := by
    simp only [ORep]
    exact ⟨trivial, rep⟩
  obtain ⟨F', k5, k6, k7⟩ := Slots.set ho _ _ _ i sl2 li
  rw [List.set_set, set_self e1] at k5
  have sub : ∀ a ∈ F', a ∈ f' := fun a ha => (k6 a ha).elim (fun z => nomatch z) id
  refine ⟨F', s.of_slots (Same.refl _) (k7 (by simpa using (List.nodup_append.mp nd).2.1)) (fun a ha => s.st.dj a ((e4 a).mpr (.inr (sub a ha)))) (fun a ha => s.out a ((e4 a).mpr (.inr (sub a ha)))) (fun a u e z => ?_) k5⟩
  rcases z with z | z
  · exact .inl (sub a z)
  · exact .inr z
theorem StB.unown (s : StB g B Z F ρ σ H) : StB g B Z [] (unown ρ) σ H := ⟨s.st.unown, s.same, fun _ z => (nomatch z)⟩
/-- a result, seen by all once nothing is owned -/
theorem PR.all (s : StB g B Z F ρ σ H) {r : R} {v : V} {f : List Addr} (p : PR g Z F H r v H' f) : Rep g (hid Z H') r.d v := by
  have := p.read s.st
  have nZ : ∀ a ∈ F, ¬ Z a := s.st.dj
  exact Rep.mono (hid_mono (Same.refl _) fun a u e z => .inr z) _ _ this
theorem StB.setD (s : StB g B Z F ρ σ H) {d : D} {v : V} {i : Nat} (hi : i < ρ.length) (h : Rep g (hid (fun a => a ∈ F ∨ Z a) H) d v) : ∃ F', StB g B Z F' (ρ.set i (some (.sh d))) (σ.set i (some v)) H :=
  s.put (r := .val true d) hi (PR.val (Same.refl _) h) (by simp [R.o])
def shO (ρ : En) (i : Nat) : En := match ρ[i]? with
  | some (some o) => ρ.set i (some (.sh o.d))
  | _ => ρ
theorem StB.sh (s : StB g B Z F ρ σ H) (i : Nat) : ∃ F', StB g B Z F' (shO ρ i) σ H := by
  unfold shO
  split
  · rename_i o e
    exact s.share e
  · exact ⟨F, s⟩
/-- name = value -/
def setR (i : Nat) (keep : Bool) (r : R) (ρ : En) : Ou := if i < ρ.length then (match r.o with
  | some o => .nx (ρ.set i (some (if keep = true then o else .sh o.d)))
  | none => .nx ((unown ρ).set i (some (.sh r.d)))) else .stuck
theorem unown_len {ρ : En} : (unown ρ).length = ρ.length := by unfold unown; rw [List.length_map]
theorem setR_ok {i : Nat} {keep : Bool} {r : R} {D : Ends} (s : StB g B Z F ρ σ H) (hp : Post g W B Z D (setR i keep r ρ)) {v : V} {f : List Addr} (p : PR g Z F H r v H' f) : D.nx (σ.set i (some v)) H' := by
  unfold setR at hp
  split at hp
  · rename_i hi
    cases e : r.o with
    | none =>
      simp only [e] at hp
      have s' := (s.ext p.same).unown
      obtain ⟨F', k⟩ := s'.setD (i := i) (d := r.d) (v := v) (by rw [unown_len]; exact hi) (Rep.mono (hid_mono (Same.refl _) fun a u e z => by
        rcases z with z | z
        · cases z
        · exact z) _ _ (p.all s))
      exact hp _ _ F' k
    | some o =>
      simp only [e] at hp
      obtain ⟨F', k⟩ := s.put hi p e
      cases keep with
      | true => exact hp _ _ F' k
      | false =>
        obtain ⟨F2, k2⟩ := k.share (i := i) (o := o) (by rw [List.getElem?_set_self hi])
        rw [List.set_set] at k2
        exact hp _ _ F2 k2
  · exact hp.elim
theorem snd_set {i : Nat} {keep : Bool} {te : TE} {m : M R} (h1 : SndE g te W ρ m) : SndS g (tAsg te (gName i)) W ρ (onM m ρ fun r => setR i keep r ρ) := by
  intro σ H Z B F D st h
  cases m with
  | stuck => exact h.elim
  | rai c p => exact h1 σ H Z F _ st.st fun d H' s x => h d σ H' F (st.ext s) (excOk_base st x)
  | ok r => exact h1 σ H Z F _ st.st fun v H' f p => setR_ok st h p
theorem snd_drop {te : TE} {m : M R} (h1 : SndE g te W ρ m) : SndS g (tDrop te) W ρ (onM m ρ fun _ => .nx ρ) := by
  intro σ H Z B F D st h
  cases m with
  | stuck => exact h.elim
  | rai c p => exact h1 σ H Z F _ st.st fun d H' s x => h d σ H' F (st.ext s) (excOk_base st x)
  | ok r => exact h1 σ H Z F _ st.st fun v H' f p => h σ H' F (st.ext p.same)

/-! ### several at once -/
def setOs : List Nat → List O → En → Option En
  | [], [], ρ => some ρ
  | i :: is, o :: os, ρ => if i < ρ.length then setOs is os (ρ.set i (some o)) else none
  | _, _, _ => none
theorem slots_os {S : Hp} : ∀ (is : List Nat) (os : List O) (ρ ρ' : En) (σ : Sg) (F f : List Addr) (vs : List V), setOs is os ρ = some ρ' → (f ++ F).Nodup → Slots g S H ρ σ F → OReps g S H os vs f →
    is.length = vs.length ∧ ∃ F', Slots g S H ρ' (is.zip vs |>.foldl (fun σ p => σ.set p.1 (some p.2)) σ) F' ∧ F'.Nodup ∧ ∀ a ∈ F', a ∈ f ∨ a ∈ F
  | [], os, ρ, ρ', σ, F, f, vs, e, nd, sl, r => by
    cases os with
    | cons o os => simp [setOs] at e
    | nil =>
      simp only [setOs, Option.some.injEq] at e
      subst e
      simp only [OReps] at r
      obtain ⟨rfl, rfl⟩ := r
      exact ⟨rfl, F, sl, by simpa using nd, fun a ha => .inr ha⟩
  | i :: is, os, ρ, ρ', σ, F, f, vs, e, nd, sl, r => by
    cases os with
    | nil => simp [setOs] at e
    | cons o os =>
      simp only [setOs] at e
      split at e
      · rename_i hi
        simp only [OReps] at r
        obtain ⟨v, w, f1, f2, rfl, rfl, r1, r2⟩ := r
        rw [List.append_assoc] at nd
        obtain ⟨F1, s1, hs1, nd1⟩ := Slots.set r1 ρ σ F i sl hi
        have ndA := nodup_sub nd
        have nd2 : (f2 ++ F1).Nodup := by
          rw [List.nodup_append] at ndA ⊢
          refine ⟨ndA.1, nd1 ndA.2.1, fun x hx y hy => ndA.2.2 x hx y ?_⟩
          rcases hs1 y hy with z | z
          · exact List.mem_append_left _ z
          · exact List.mem_append_right _ z
        obtain ⟨h1, F', h2, h3, h4⟩ := slots_os is os _ ρ' _ F1 f2 w e nd2 s1 r2
        refine ⟨by rw [List.length_cons, List.length_cons, h1], F', h2, h3, fun a ha => ?_⟩
        rcases h4 a ha with z | z
        · exact .inl (List.mem_append_right _ z)
        · rcases hs1 a z with z | z
          · exact .inl (List.mem_append_left _ z)
          · exact .inr z
      · cases e
theorem gNames_run : ∀ (is : List Nat) (vs : List V) (σ : Sg) (Q : Sg → Hp → Prop), is.length = vs.length → Q (is.zip vs |>.foldl (fun σ p => σ.set p.1 (some p.2)) σ) H → gNames is vs σ H Q
  | [], vs, σ, Q, l, h => by
    cases vs with
    | nil => exact ⟨rfl, h⟩
    | cons v vs => simp at l
  | i :: is, vs, σ, Q, l, h => by
    cases vs with
    | nil => simp at l
    | cons v vs => exact ⟨v, vs, rfl, gNames_run is vs _ Q (by simpa using l) h⟩
theorem StB.putOs (s : StB g B Z F ρ σ H) {is : List Nat} {os : List O} {vs : List V} {f : List Addr} {ρ' : En} (k : Same H H') (nd : f.Nodup) (fr : ∀ a ∈ f, H a = none) (al : ∀ a ∈ f, H' a ≠ none) (r : OReps g (hid (fun a => a ∈ f ∨ a ∈ F ∨ Z a) H') H' os vs f) (e : setOs is os ρ = some ρ') :
    is.length = vs.length ∧ ∃ F', StB g B Z F' ρ' (is.zip vs |>.foldl (fun σ p => σ.set p.1 (some p.2)) σ) H' := by
  have ndf : (f ++ F).Nodup := by
    rw [List.nodup_append]
    refine ⟨nd, s.st.nd, fun x hx y hy e => ?_⟩
    subst e
    obtain ⟨u, q⟩ := (s.soft x hy).some
    rw [fr x hx] at q; cases q
  have sl : Slots g (hid (fun a => a ∈ f ∨ a ∈ F ∨ Z a) H') H' ρ σ F := Slots.mono (hid_mono (Same.refl _) fun a u e z => by
    rcases z with z | z | z
    · exact .inr (.inl z)
    · exact .inl z
    · exact .inr (.inr z)) _ _ _ (fun a _ u e => e) (s.st.ext k fr al).sl
  obtain ⟨h1, F', h2, h3, h4⟩ := slots_os is os ρ ρ' σ F f vs e ndf sl r
  refine ⟨h1, F', s.of_slots k h3 (fun a ha => ?_) (fun a ha => ?_) (fun a u e z => ?_) h2⟩
  · rcases h4 a ha with z | z
    · exact fun z2 => s.st.zd a z2 (fr a z)
    · exact s.st.dj a z
  · rcases h4 a ha with z | z
    · exact s.same.free (fr a z)
    · exact s.out a z
  · rcases z with z | z
    · rcases h4 a z with z | z
      · exact .inl z
      · exact .inr (.inl z)
    · exact .inr (.inr z)
/-- a, b, .. = a tuple -/
def unpR (is : List Nat) (r : R) (ρ : En) : Option En := match r with
  | .own (.tup os) => setOs is os ρ
  | r => match r.d with
    | .tup ds => if r.clean = true then setOs is (ds.map .sh) ρ else setOs is (ds.map .sh) (unown ρ)
    | _ => none
def ouOf : Option En → Ou
  | some ρ => .nx ρ
  | none => .stuck
theorem setOs_len : ∀ {is : List Nat} {os : List O} {ρ ρ' : En}, setOs is os ρ = some ρ' → os.length = is.length
  | [], os, ρ, ρ', e => by
    cases os with
    | nil => rfl
    | cons o os => simp [setOs] at e
  | i :: is, os, ρ, ρ', e => by
    cases os with
    | nil => simp [setOs] at e
    | cons o os =>
      simp only [setOs] at e
      split at e
      · rw [List.length_cons, List.length_cons, setOs_len e]
      · cases e
theorem unpR_ok {is : List Nat} {r : R} {De : Ends} (s : StB g B Z F ρ σ H) (hp : Post g W B Z De (ouOf (unpR is r ρ))) {v : V} {f : List Addr} (p : PR g Z F H r v H' f) : gTup g.K is.length (gNames is) v σ H' De.nx := by
  cases e : unpR is r ρ with
  | none => rw [e] at hp; exact hp.elim
  | some ρ' =>
    rw [e] at hp
    have gen : ∀ (ds : List D), r.d = .tup ds → (if r.clean = true then setOs is (ds.map .sh) ρ else setOs is (ds.map .sh) (unown ρ)) = some ρ' → gTup g.K is.length (gNames is) v σ H' De.nx := fun ds ed e => by
      have k := p.read s.st
      rw [ed] at k
      simp only [Rep] at k
      obtain ⟨a, vs, rfl, q, rr⟩ := k
      have ln := Reps.len rr
      split at e
      · rename_i hc
        have l2 := setOs_len e
        rw [List.length_map] at l2
        refine ⟨a, vs, rfl, SqT_mono q hid_sub, by omega, ?_⟩
        have sx := s.ext p.same
        have ro : OReps g (hid (fun a => a ∈ ([] : List Addr) ∨ a ∈ F ∨ Z a) H') H' (ds.map .sh) vs [] := OReps.shs (Reps.mono (hid_mono (Same.refl _) fun a u e z => by
          rcases z with z | z | z
          · cases z
          · exact .inl ⟨hc, z⟩
          · exact .inr z) _ _ rr)
        obtain ⟨h1, F', h2⟩ := sx.putOs (Same.refl _) List.nodup_nil (fun _ z => (nomatch z)) (fun _ z => (nomatch z)) ro e
        exact gNames_run is vs σ _ h1 (hp _ _ F' h2)
      · rename_i hc
        have l2 := setOs_len e
        rw [List.length_map] at l2
        refine ⟨a, vs, rfl, SqT_mono q hid_sub, by omega, ?_⟩
        have sx := (s.ext p.same).unown
        have ro : OReps g (hid (fun a => a ∈ ([] : List Addr) ∨ a ∈ ([] : List Addr) ∨ Z a) H') H' (ds.map .sh) vs [] := OReps.shs (Reps.mono (hid_mono (Same.refl _) fun a u e z => by
          rcases z with z | z | z
          · cases z
          · cases z
          · exact .inr z) _ _ rr)
        obtain ⟨h1, F', h2⟩ := sx.putOs (Same.refl _) List.nodup_nil (fun _ z => (nomatch z)) (fun _ z => (nomatch z)) ro e
        exact gNames_run is vs σ _ h1 (hp _ _ F' h2)
    unfold unpR at e
    split at e
    · rename_i os
      have k : ORep g _ H' (.tup os) v f := p.rr
      simp only [ORep] at k
      obtain ⟨a, vs, rfl, q, rr⟩ := k
      have ln := OReps.len rr
      have l2 := setOs_len e
      refine ⟨a, vs, rfl, SqT_mono q hid_sub, by omega, ?_⟩
      obtain ⟨h1, F', h2⟩ := s.putOs p.same p.nd p.fr p.al rr e
      exact gNames_run is vs σ _ h1 (hp _ _ F' h2)
    · split at e
      · rename_i ds ed
        exact gen ds ed e
      · cases e
theorem snd_unp {is : List Nat} {te : TE} {m : M R} (h1 : SndE g te W ρ m) : SndS g (tAsg te (gTup g.K is.length (gNames is))) W ρ (onM m ρ fun r => ouOf (unpR is r ρ)) := by
  intro σ H Z B F D st h
  cases m with
  | stuck => exact h.elim
  | rai c p => exact h1 σ H Z F _ st.st fun d H' s x => h d σ H' F (st.ext s) (excOk_base st x)
  | ok r => exact h1 σ H Z F _ st.st fun v H' f p => unpR_ok st h p
/-- a, b = x, y -/
def parR (i j : Nat) (rs : List R) (ρ : En) : Option En := match ros rs with
  | some os => setOs [i, j] os ρ
  | none => setOs [i, j] ((rds rs).map .sh) (unown ρ)
theorem snd_par {i j : Nat} {ta : TA} {m : M (List R)} (h1 : SndA g ta W ρ m) : SndS g (tPar i j ta) W ρ (onM m ρ fun rs => ouOf (parR i j rs ρ)) := by
  intro σ H Z B F D st h
  cases m with
  | stuck => exact h.elim
  | rai c p => exact h1 σ H Z F _ st.st fun d H' s x => h d σ H' F (st.ext s) (excOk_base st x)
  | ok rs =>
    refine h1 σ H Z F _ st.st fun vs H' f p => ?_
    have fin : ∀ {ρ' : En} {F' : List Addr}, parR i j rs ρ = some ρ' → ([i, j] : List Nat).length = vs.length → StB g B Z F' ρ' (([i, j] : List Nat).zip vs |>.foldl (fun σ p => σ.set p.1 (some p.2)) σ) H' → ∃ v w, vs = [v, w] ∧ D.nx ((σ.set i (some v)).set j (some w)) H' := fun {ρ' F'} e l s => by
      have hh : Post g W B Z D (ouOf (parR i j rs ρ)) := h
      rw [e] at hh
      match vs, l, s with
      | [v, w], _, s => exact ⟨v, w, rfl, hh _ _ _ s⟩
    cases e : parR i j rs ρ with
    | none =>
      have hh : Post g W B Z D (ouOf (parR i j rs ρ)) := h
      rw [e] at hh
      exact hh.elim
    | some ρ' =>
      have e0 := e
      unfold parR at e
      cases eo : ros rs with
      | some os =>
        rw [eo] at e
        have rr := RRs.os st.st p.same p.fr eo p.rr
        obtain ⟨h3, F', h4⟩ := st.putOs p.same p.nd p.fr p.al rr e
        exact fin e0 h3 h4
      | none =>
        rw [eo] at e
        have rr : Reps g (hid Z H') (rds rs) vs := Reps.mono (hid_mono (Same.refl _) fun a u e z => .inr z) _ _ (p.read st.st)
        have ro : OReps g (hid (fun a => a ∈ ([] : List Addr) ∨ a ∈ ([] : List Addr) ∨ Z a) H') H' ((rds rs).map .sh) vs [] := OReps.shs (Reps.mono (hid_mono (Same.refl _) fun a u e z => by
          rcases z with z | z | z
          · cases z
          · cases z
          · exact z) _ _ rr)
        obtain ⟨h3, F', h4⟩ := (st.ext p.same).unown.putOs (Same.refl _) List.nodup_nil (fun _ z => (nomatch z)) (fun _ z => (nomatch z)) ro e
        exact fin e0 h3 h4

/-! ### the way out -/
def retR : R → O
  | .own o => o
  | r => .sh r.d
theorem snd_ret {te : TE} {m : M R} (h1 : SndE g te W ρ m) : SndS g (tRet te) W ρ (onM m ρ fun r => .ret (retR r)) := by
  intro σ H Z B F D st h
  cases m with
  | stuck => exact h.elim
  | rai c p => exact h1 σ H Z F _ st.st fun d H' s x => h d σ H' F (st.ext s) (excOk_base st x)
  | ok r =>
    refine h1 σ H Z F _ st.st fun v H' f p => h v H' ?_
    have gen : RetOk g B Z (.sh r.d) v H' := by
      refine ⟨[], st.same.trans p.same, List.nodup_nil, fun _ z => (nomatch z), ?_⟩
      simp only [ORep]
      refine ⟨trivial, Rep.mono (hid_mono (Same.refl _) fun a u e z => ?_) _ _ (p.all st)⟩
      rcases z with z | z
      · cases z
      · exact z
    cases r with
    | own o =>
      refine ⟨f, st.same.trans p.same, p.nd, fun a ha => st.same.free (p.fr a ha), ORep.mono (hid_mono (Same.refl _) fun a u e z => ?_) _ _ _ (fun a _ u e => e) (show ORep g _ H' o v f from p.rr)⟩
      rcases z with z | z
      · exact .inl z
      · exact .inr (.inr z)
    | val c d => exact gen
    | bor o => exact gen
def retV (ρ : En) (i : Nat) : Ou := match ρ[i]? with
  | some (some o) => .ret o
  | _ => .stuck
theorem snd_retV {i : Nat} : SndS g (tRet (tVar i)) W ρ (retV ρ i) := by
  intro σ H Z B F D st h
  unfold retV at h
  split at h
  · rename_i o e
    obtain ⟨v, f0, f', e1, e2, e3, e4, e5⟩ := Slots.take ρ σ F i st.st.sl e
    refine ⟨v, e1, h v H ⟨f0, st.same, (List.nodup_append.mp (e5 st.st.nd)).1, fun a ha => st.out a ((e4 a).mpr (.inl ha)), ORep.mono (hid_mono (Same.refl _) fun a u e z => ?_) _ _ _ (fun a _ u e => e) e2⟩⟩
    rcases z with z | z
    · exact .inl ((e4 a).mpr (.inl z))
    · exact .inr z
  · exact h.elim
theorem snd_retN : SndS g tRetN W ρ (.ret (.sh .non)) := fun σ H Z B F D st h => h .non H ⟨[], st.same, List.nodup_nil, fun _ z => (nomatch z), by simp only [ORep, Rep]; exact ⟨trivial, trivial⟩⟩
theorem snd_never {o : Ou} {t : TS} (h : o = .stuck) : SndS g t W ρ o := by subst h; exact snd_stuck
end TL

namespace TL
open PySem PySem.Spec L2
variable {g : Gc} {B B1 : Hp} {Z : Addr → Prop} {F : List Addr} {ρ : En} {σ : Sg} {H H' H1 H2 : Hp} {W : WX}

/-! ### while -/
def whl (c : En → M Bool) (b : En → Ou) : Nat → En → Ou
  | 0, _ => .stuck
  | n + 1, ρ => onM (c ρ) ρ fun x => if x = true then (match b ρ with
      | .nx ρ' => whl c b n ρ'
      | .cnt ρ' => whl c b n ρ'
      | .brk ρ' => .nx ρ'
      | o => o) else .nx ρ
theorem whl_ok {tc : TT} {tb : TS} {c : En → M Bool} {b : En → Ou} (hc : ∀ ρ, SndT g tc W ρ (c ρ)) (hb : ∀ ρ, SndS g tb W ρ (b ρ)) (n : Nat) : SndS g (tWhile tc tb) W ρ (whl c b n ρ) := by
  intro σ H Z B F D st h
  generalize eo : whl c b n ρ = out at h
  refine ⟨fun m σ H => ∃ ρ F, StB g B Z F ρ σ H ∧ whl c b m ρ = out, ⟨n, ρ, F, st, eo⟩, ?_⟩
  rintro m σ H ⟨ρ, F, st, eo⟩
  cases m with
  | zero =>
    rw [← eo] at h
    exact h.elim
  | succ m =>
    unfold whl at eo
    have hcρ := hc ρ
    cases ec : c ρ with
    | stuck =>
      rw [ec] at eo
      rw [← eo] at h
      exact h.elim
    | rai k p =>
      rw [ec] at eo hcρ
      rw [← eo] at h
      exact hcρ σ H Z F _ st.st fun d H' s x => h d σ H' F (st.ext s) (excOk_base st x)
    | ok x =>
      rw [ec] at eo hcρ
      refine hcρ σ H Z F _ st.st fun H' s => ?_
      have eo : (if x = true then _ else _) = out := eo
      cases x with
      | false =>
        rw [if_neg (by decide)] at eo ⊢
        rw [← eo] at h
        exact h σ H' F (st.ext s)
      | true =>
        rw [if_pos rfl] at eo ⊢
        refine ⟨fun σ' H' => ∃ ρ' F', StB g B Z F' ρ' σ' H' ∧ whl c b m ρ' = out, fun σ' H' ⟨ρ', F', s', e'⟩ => ⟨m, Nat.lt_succ_self m, ρ', F', s', e'⟩, ?_⟩
        refine hb ρ σ H' Z B F _ (st.ext s) ?_
        cases eb : b ρ with
        | stuck =>
          rw [eb] at eo
          rw [← eo] at h
          exact h.elim
        | nx ρ' =>
          rw [eb] at eo
          exact fun σ' H' F' s' => ⟨ρ', F', s', eo⟩
        | cnt ρ' =>
          rw [eb] at eo
          exact fun σ' H' F' s' => ⟨ρ', F', s', eo⟩
        | brk ρ' =>
          rw [eb] at eo
          rw [← eo] at h
          exact h
        | ret o =>
          rw [eb] at eo
          rw [← eo] at h
          exact h
        | rai k p ρ' =>
          rw [eb] at eo
          rw [← eo] at h
          exact h
open Classical in
/-- some number of turns is enough -/
noncomputable def whlW (c : En → M Bool) (b : En → Ou) (ρ : En) : Ou := if h : ∃ n, whl c b n ρ ≠ .stuck then whl c b (Classical.choose h) ρ else .stuck
theorem snd_whl {tc : TT} {tb : TS} {c : En → M Bool} {b : En → Ou} (hc : ∀ ρ, SndT g tc W ρ (c ρ)) (hb : ∀ ρ, SndS g tb W ρ (b ρ)) : SndS g (tWhile tc tb) W ρ (whlW c b ρ) := by
  unfold whlW
  split
  · exact whl_ok hc hb _
  · exact snd_stuck
theorem whl_more {c : En → M Bool} {b : En → Ou} : ∀ (n m : Nat) (ρ : En) (o : Ou), whl c b n ρ = o → o ≠ .stuck → n ≤ m → whl c b m ρ = o
  | 0, m, ρ, o, e, h, l => by
    unfold whl at e
    exact absurd e.symm h
  | n + 1, 0, ρ, o, e, h, l => by omega
  | n + 1, m + 1, ρ, o, e, h, l => by
    unfold whl at e ⊢
    have l' : n ≤ m := by omega
    cases ec : c ρ with
    | stuck => rw [ec] at e; exact e
    | rai k p => rw [ec] at e; exact e
    | ok x =>
      rw [ec] at e
      show (if x = true then _ else _) = o
      have e : (if x = true then _ else _) = o := e
      cases x with
      | false => exact e
      | true =>
        rw [if_pos rfl] at e ⊢
        cases eb : b ρ with
        | nx ρ' => rw [eb] at e; exact whl_more n m ρ' o e h l'
        | cnt ρ' => rw [eb] at e; exact whl_more n m ρ' o e h l'
        | stuck => rw [eb] at e; exact e
        | brk ρ' => rw [eb] at e; exact e
        | ret o' => rw [eb] at e; exact e
        | rai k p ρ' => rw [eb] at e; exact e
/-- how a while is computed -/
theorem whlW_eq {c : En → M Bool} {b : En → Ou} {n : Nat} {o : Ou} (e : whl c b n ρ = o) (h : o ≠ .stuck) : whlW c b ρ = o := by
  unfold whlW
  have hx : ∃ n, whl c b n ρ ≠ .stuck := ⟨n, by rw [e]; exact h⟩
  rw [dif_pos hx]
  have hs := Classical.choose_spec hx
  have k1 := whl_more n (max n (Classical.choose hx)) ρ o e h (by omega)
  have k2 := whl_more (Classical.choose hx) (max n (Classical.choose hx)) ρ _ rfl hs (by omega)
  rw [← k2, k1]

/-! ### for -/
def forL (bind : D → En → Option En) (b : En → Ou) : List D → En → Ou
  | [], ρ => .nx ρ
  | d :: ds, ρ => match bind d ρ with
    | none => .stuck
    | some ρ1 => match b ρ1 with
      | .nx ρ' => forL bind b ds ρ'
      | .cnt ρ' => forL bind b ds ρ'
      | .brk ρ' => .nx ρ'
      | o => o
theorem for_ok {gt : TG} {sl : List Nat} {bind : D → En → Option En} {tb : TS} {b : En → Ou} (hg : SndG g gt sl bind) (hb : ∀ ρ, SndS g tb W ρ (b ρ)) {S : Hp} {J : It} {ds : List D} {D : Ends} {out : Ou} (hJ : ItOk g S J ds) (hS : ∀ σ' H' F' ρ', StB g B1 Z F' ρ' σ' H' → ∀ a u, S a = some u → a ∉ F' ∧ ¬ Z a ∧ H' a = some u)
    (st : StB g B1 Z F ρ σ H) (eo : forL bind b ds ρ = out) (h : Post g W B1 Z D out) :
    ∃ W : Nat → Nat → Sg → Hp → Prop, (∃ m, W 0 m σ H) ∧ ∀ i m σ H, W i m σ H →
      (J.stop i H ∧ D.nx σ H) ∨ (J.go i H ∧ ∃ N : Sg → Hp → Prop, (∀ σ' H', N σ' H' → ∃ m', m' < m ∧ W (i + 1) m' σ' H') ∧ ∀ x H', J.yld i H x H' → gt x σ H' fun σ2 H2 => tb { D with nx := N, ct := N, bk := D.nx } σ2 H2) := by
  refine ⟨fun i m σ H => m = ds.length - i ∧ i ≤ ds.length ∧ ∃ ρ F, StB g B1 Z F ρ σ H ∧ forL bind b (ds.drop i) ρ = out, ⟨_, rfl, Nat.zero_le _, ρ, F, st, eo⟩, ?_⟩
  rintro i m σ H ⟨rfl, hi, ρ, F, st, eo⟩
  have sS : Same S H := fun a u e => (hS _ _ _ _ st a u e).2.2
  have hj := hJ H sS i
  by_cases hlt : i < ds.length
  · have e1 : ds.drop i = ds[i] :: ds.drop (i + 1) := List.drop_eq_getElem_cons hlt
    rw [e1] at eo
    have hd : ds[i]? = some ds[i] := by simp [hlt]
    obtain ⟨go, yl⟩ := hj.2 ds[i] hd
    refine .inr ⟨go, fun σ' H' => ∃ ρ' F', StB g B1 Z F' ρ' σ' H' ∧ forL bind b (ds.drop (i + 1)) ρ' = out, fun σ' H' ⟨ρ', F', s', e'⟩ => ⟨ds.length - (i + 1), by omega, rfl, hlt, ρ', F', s', e'⟩, fun x H' y => ?_⟩
    obtain ⟨rfl, rx⟩ := yl x H' y
    unfold forL at eo
    cases eb : bind ds[i] ρ with
    | none =>
      rw [eb] at eo
      rw [← eo] at h
      exact h.elim
    | some ρ1 =>
      rw [eb] at eo
      have eo : (match b ρ1 with | .nx ρ' => _ | .cnt ρ' => _ | .brk ρ' => _ | o => o) = out := eo
      refine hg ds[i] ρ ρ1 eb σ H' Z F x _ st.st (Rep.mono (fun a u e => hid_some.mpr (And.intro (fun z => ?_) (sS a u e))) _ _ rx) fun σ' F' h1 h2 h3 h4 h5 => ?_
      · have k := hS _ _ _ _ st a u e
        rcases z with z | z
        · exact k.1 z
        · exact k.2.1 z
      · have s' : StB g B1 Z F' ρ1 σ' H' := st.of_slots (Same.refl _) h2 (fun a ha => st.st.dj a (h1 a ha)) (fun a ha => st.out a (h1 a ha)) (fun a u e z => by
          rcases z with z | z
          · exact .inl (h1 a z)
          · exact .inr z) h3
        refine hb ρ1 σ' H' Z B1 F' _ s' ?_
        cases eb2 : b ρ1 with
        | stuck =>
          rw [eb2] at eo
          rw [← eo] at h
          exact h.elim
        | nx ρ' =>
          rw [eb2] at eo
          exact fun σ' H' F' s' => ⟨ρ', F', s', eo⟩
        | cnt ρ' =>
          rw [eb2] at eo
          exact fun σ' H' F' s' => ⟨ρ', F', s', eo⟩
        | brk ρ' =>
          rw [eb2] at eo
          rw [← eo] at h
          exact h
        | ret o =>
          rw [eb2] at eo
          rw [← eo] at h
          exact h
        | rai k p ρ' =>
          rw [eb2] at eo
          rw [← eo] at h
          exact h
  · have ei : i = ds.length := by omega
    rw [ei, List.drop_length] at eo
    unfold forL at eo
    rw [← eo] at h
    exact .inl ⟨hj.1 (by omega), h σ H F st⟩
def forR (bind : D → En → Option En) (b : En → Ou) (m : M (Bool × List D)) (ρ : En) : Ou := onM m ρ fun p => match p.1 with
  | true => forL bind b p.2 ρ
  | false => forL bind b p.2 (unown ρ)
theorem snd_for {gt : TG} {sl : List Nat} {bind : D → En → Option En} {wi : TI} {tb : TS} {b : En → Ou} {m : M (Bool × List D)} (hi : SndI g wi W ρ m) (hg : SndG g gt sl bind) (hb : ∀ ρ, SndS g tb W ρ (b ρ)) : SndS g (tFor wi gt tb) W ρ (forR bind b m ρ) := by
  intro σ H Z B F D st h
  cases m with
  | stuck => exact h.elim
  | rai c p => exact hi σ H Z F _ st.st fun d H' s x => h d σ H' F (st.ext s) (excOk_base st x)
  | ok cd =>
    obtain ⟨c, ds⟩ := cd
    refine hi σ H Z F _ st.st fun J H' s hJ => ?_
    have st' := st.ext s
    cases c with
    | true =>
      have h : Post g W B Z D (forL bind b ds ρ) := h
      obtain ⟨s1, kb⟩ := st'.loop
      refine for_ok hg hb (hJ.mono (hid_mono (Same.refl _) (Q := fun a => a ∈ F ∨ Z a) fun a u e z => ?_)) (fun σ2 H2 F2 ρ2 s2 a u e => ?_) s1 rfl (h.base kb)
      · exact z.elim (fun z => .inl ⟨rfl, z⟩) .inr
      · obtain ⟨n, e2⟩ := hid_some.mp e
        have eb : lpB F H' a = some u := hid_some.mpr (And.intro (fun z => n (.inl z)) e2)
        refine ⟨fun z => ?_, fun z => n (.inr z), s2.same a u eb⟩
        rw [s2.out a z] at eb; cases eb
    | false =>
      have h : Post g W B Z D (forL bind b ds (unown ρ)) := h
      obtain ⟨s1, kb⟩ := st'.unown.loop
      refine for_ok hg hb (hJ.mono (hid_mono (Same.refl _) (Q := fun a => Z a) fun a u e z => ?_)) (fun σ2 H2 F2 ρ2 s2 a u e => ?_) s1 rfl (h.base kb)
      · exact .inr z
      · obtain ⟨n, e2⟩ := hid_some.mp e
        have eb : lpB [] H' a = some u := hid_some.mpr (And.intro (fun z => nomatch z) e2)
        refine ⟨fun z => ?_, n, s2.same a u eb⟩
        rw [s2.out a z] at eb; cases eb

theorem upd_keep {a b : Addr} {o u : HO} (hb : b ≠ a) (q : H b = some u) : upd H a o b = some u := by rw [upd_ne hb]; exact q
theorem mem_ne {a b : Addr} {f : List Addr} (ha : a ∈ f) (hb : b ∉ f) : b ≠ a := fun e => hb (by rw [e]; exact ha)
/-! ### a node of an owned tree, written -/
def nodeV (H : Hp) : V → List Nat → Option V
  | v, [] => some v
  | v, j :: js => match v with
    | .ref a => match H a with
      | some (.lst vs) => match vs[j]? with
        | some w => nodeV H w js
        | none => none
      | _ => none
    | _ => none
theorem nodeV_mono (s : Same H H') : ∀ (js : List Nat) (v w : V), nodeV H v js = some w → nodeV H' v js = some w
  | [], v, w, e => e
  | j :: js, v, w, e => by
    unfold nodeV at e ⊢
    cases v with
    | ref a =>
      cases ha : H a with
      | none => simp [ha] at e
      | some o =>
        simp only [ha] at e
        simp only [s _ _ ha]
        cases o with
        | lst vs =>
          simp only at e ⊢
          cases hv : vs[j]? with
          | none => simp [hv] at e
          | some x =>
            simp only [hv] at e ⊢
            exact nodeV_mono s js x w e
        | _ => simp at e
    | _ => simp at e
theorem nodeV_snoc : ∀ (js : List Nat) (v : V) {a : Addr} {vs : List V} {j : Nat} {w : V}, nodeV H v js = some (.ref a) → H a = some (.lst vs) → vs[j]? = some w → nodeV H v (js ++ [j]) = some w
  | [], v, a, vs, j, w, e, h1, h2 => by
    simp only [nodeV, Option.some.injEq] at e
    subst e
    show nodeV H _ [j] = _
    simp only [nodeV, h1, h2]
  | i :: js, v, a, vs, j, w, e, h1, h2 => by
    show nodeV H v (i :: (js ++ [j])) = _
    unfold nodeV at e ⊢
    cases v with
    | ref b =>
      cases hb : H b with
      | none => simp [hb] at e
      | some o =>
        simp only [hb] at e ⊢
        cases o with
        | lst us =>
          simp only at e ⊢
          cases hv : us[i]? with
          | none => simp [hv] at e
          | some x =>
            simp only [hv] at e ⊢
            exact nodeV_snoc js x e h1 h2
        | _ => simp at e
    | _ => simp at e
def nodeO : O → List Nat → Option O
  | o, [] => some o
  | .lst os, j :: js => match os[j]? with
    | some o => nodeO o js
    | none => none
  | _, _ :: _ => none
theorem nodeO_snoc : ∀ (js : List Nat) (o : O) {os : List O} {j : Nat} {o' : O}, nodeO o js = some (.lst os) → os[j]? = some o' → nodeO o (js ++ [j]) = some o'
  | [], o, os, j, o', e, h => by
    simp only [nodeO, Option.some.injEq] at e
    subst e
    show nodeO _ [j] = _
    simp only [nodeO, h]
  | i :: js, o, os, j, o', e, h => by
    show nodeO o (i :: (js ++ [j])) = _
    cases o with
    | lst us =>
      unfold nodeO at e ⊢
      cases hv : us[i]? with
      | none => simp [hv] at e
      | some x =>
        simp only [hv] at e ⊢
        exact nodeO_snoc js x e h
    | _ => simp [nodeO] at e
/-- what is done to a list -/
inductive Lop where
  | app | put (j : Nat)
def Lop.on {α : Type} : Lop → List α → α → List α
  | .app, xs, x => xs ++ [x]
  | .put j, xs, x => xs.set j x
def updO (op : Lop) (e : O) : O → List Nat → O
  | .lst os, [] => .lst (op.on os e)
  | .lst os, j :: js => match os[j]? with
    | some o => .lst (os.set j (updO op e o js))
    | none => .lst os
  | o, _ => o
theorem OReps.snoc {S : Hp} {o : O} {v : V} {f0 : List Addr} (ho : ORep g S H o v f0) : ∀ (os : List O) (vs : List V) (f : List Addr), OReps g S H os vs f → OReps g S H (os ++ [o]) (vs ++ [v]) (f ++ f0)
  | [], vs, f, h => by
    simp only [OReps] at h
    obtain ⟨rfl, rfl⟩ := h
    show OReps g S H [o] [v] f0
    simp only [OReps]
    exact ⟨v, [], f0, [], rfl, by simp, ho, rfl, rfl⟩
  | x :: os, vs, f, h => by
    simp only [OReps] at h
    obtain ⟨w, r, f1, f2, rfl, rfl, h1, h2⟩ := h
    show OReps g S H (x :: (os ++ [o])) _ _
    simp only [OReps]
    exact ⟨w, r ++ [v], f1, f2 ++ f0, rfl, by rw [List.append_assoc], h1, OReps.snoc ho os r f2 h2⟩
theorem OReps.put {S : Hp} {o : O} {v : V} {f0 : List Addr} (ho : ORep g S H o v f0) : ∀ (os : List O) (vs : List V) (f : List Addr) (j : Nat), OReps g S H os vs f → j < os.length →
    ∃ f', OReps g S H (os.set j o) (vs.set j v) f' ∧ (∀ a ∈ f', a ∈ f0 ∨ a ∈ f) ∧ ((f0 ++ f).Nodup → f'.Nodup)
  | [], vs, f, j, h, l => by simp at l
  | x :: os, vs, f, 0, h, l => by
    simp only [OReps] at h
    obtain ⟨w, r, f1, f2, rfl, rfl, h1, h2⟩ := h
    refine ⟨f0 ++ f2, ?_, fun a ha => ?_, fun n => nodup_right n⟩
    · show OReps g S H (o :: os) (v :: r) _
      simp only [OReps]
      exact ⟨v, r, f0, f2, rfl, rfl, ho, h2⟩
    · rcases List.mem_append.mp ha with ha | ha
      · exact .inl ha
      · exact .inr (List.mem_append_right _ ha)
  | x :: os, vs, f, j + 1, h, l => by
    simp only [OReps] at h
    obtain ⟨w, r, f1, f2, rfl, rfl, h1, h2⟩ := h
    obtain ⟨f', h', s, n⟩ := OReps.put ho os r f2 j h2 (by simpa using l)
    refine ⟨f1 ++ f', ?_, fun a ha => ?_, fun nd => ?_⟩
    · show OReps g S H (x :: os.set j o) (w :: r.set j v) _
      simp only [OReps]
      exact ⟨w, r.set j v, f1, f', rfl, rfl, h1, h'⟩
    · rcases List.mem_append.mp ha with ha | ha
      · exact .inr (List.mem_append_left _ ha)
      · rcases s a ha with z | z
        · exact .inl z
        · exact .inr (List.mem_append_right _ z)
    · have nd' := nodup_sub nd
      rw [List.nodup_append] at nd' ⊢
      refine ⟨nd'.1, n nd'.2.1, fun x hx y hy => nd'.2.2 x hx y ?_⟩
      rcases s y hy with z | z
      · exact List.mem_append_left _ z
      · exact List.mem_append_right _ z
theorem OReps.op {S : Hp} {op : Lop} {o : O} {v : V} {f0 : List Addr} (ho : ORep g S H o v f0) {os : List O} {vs : List V} {f : List Addr} (h : OReps g S H os vs f) (l : ∀ j, op = .put j → j < os.length) (nd : (f0 ++ f).Nodup) :
    ∃ f', OReps g S H (op.on os o) (op.on vs v) f' ∧ (∀ a ∈ f', a ∈ f0 ∨ a ∈ f) ∧ f'.Nodup := by
  cases op with
  | app =>
    refine ⟨f ++ f0, OReps.snoc ho os vs f h, fun a ha => (List.mem_append.mp ha).symm, ?_⟩
    rw [List.nodup_append] at nd ⊢
    exact ⟨nd.2.1, nd.1, fun x hx y hy e => nd.2.2 y hy x hx e.symm⟩
  | put j =>
    obtain ⟨f', h1, h2, h3⟩ := OReps.put ho os vs f j h (l j rfl)
    exact ⟨f', h1, h2, h3 nd⟩
theorem nodup_cons_right {a : Addr} {f1 f2 : List Addr} (h : (f1 ++ a :: f2).Nodup) : (f1 ++ f2).Nodup ∧ a ∉ f1 ∧ a ∉ f2 := by
  have h' : (f1 ++ ([a] ++ f2)).Nodup := h
  refine ⟨nodup_right h', ?_, ?_⟩
  · intro z
    exact (List.nodup_append.mp h).2.2 a z a List.mem_cons_self rfl
  · exact (List.nodup_cons.mp (List.nodup_append.mp h).2.1).1
mutual
/-- one node is written: the rest stands -/
theorem ORep.upd {S : Hp} {op : Lop} {e : O} {w : V} {f0 : List Addr} (he : ORep g S H e w f0) {a : Addr} {vs0 : List V} {os0 : List O} (ha : H a = some (.lst vs0)) (lo : ∀ j, op = .put j → j < os0.length) :
    ∀ (o : O) (v : V) (f : List Addr) (js : List Nat), ORep g S H o v f → (f0 ++ f).Nodup → nodeO o js = some (.lst os0) → nodeV H v js = some (.ref a) →
      a ∈ f ∧ vs0.length = os0.length ∧ ∃ f', ORep g S (upd H a (.lst (op.on vs0 w))) (updO op e o js) v f' ∧ (∀ b ∈ f', b ∈ f0 ∨ b ∈ f) ∧ f'.Nodup
  | .lst os, v, f, [], h, nd, e1, e2 => by
    simp only [nodeO, Option.some.injEq, O.lst.injEq] at e1
    simp only [nodeV, Option.some.injEq] at e2
    subst e1
    subst e2
    simp only [ORep] at h
    obtain ⟨b, vs, f', ev, q, rfl, r⟩ := h
    cases ev
    rw [ha] at q
    cases q
    obtain ⟨n1, n2, n3⟩ := nodup_cons_right nd
    obtain ⟨f2, h1, h2, h3⟩ := OReps.op (op := op) he r lo n1
    have na : a ∉ f2 := fun z => (h2 a z).elim n2 n3
    refine ⟨List.mem_cons_self, OReps.len r, a :: f2, ?_, fun b hb => ?_, List.nodup_cons.mpr ⟨na, h3⟩⟩
    · show ORep g S _ (.lst (op.on os e)) _ _
      simp only [ORep]
      exact ⟨a, op.on vs0 w, f2, rfl, upd_same, rfl, OReps.mono (Same.refl _) _ _ _ (fun b hb u q => upd_keep (Ne.symm (mem_ne hb na)) q) h1⟩
    · rcases List.mem_cons.mp hb with rfl | hb
      · exact .inr List.mem_cons_self
      · rcases h2 b hb with z | z
        · exact .inl z
        · exact .inr (List.mem_cons_of_mem _ z)
  | .lst os, v, f, j :: js, h, nd, e1, e2 => by
    simp only [ORep] at h
    obtain ⟨b, vs, f', rfl, q, rfl, r⟩ := h
    simp only [nodeO] at e1
    simp only [nodeV, q] at e2
    cases eo : os[j]? with
    | none => simp [eo] at e1
    | some o' =>
      cases ev : vs[j]? with
      | none => simp [ev] at e2
      | some v' =>
        simp only [eo] at e1
        simp only [ev] at e2
        obtain ⟨n1, n2, n3⟩ := nodup_cons_right nd
        obtain ⟨k1, k0, f2, k2, k3, k4⟩ := OReps.upd he ha lo os vs f' j js r n1 eo ev e1 e2
        have nb : b ∉ f2 := fun z => (k3 b z).elim n2 n3
        have hab : b ≠ a := mem_ne k1 n3
        refine ⟨List.mem_cons_of_mem _ k1, k0, b :: f2, ?_, fun c hc => ?_, List.nodup_cons.mpr ⟨nb, k4⟩⟩
        · simp only [updO, eo, ORep]
          exact ⟨b, vs, f2, rfl, by rw [upd_ne hab]; exact q, rfl, k2⟩
        · rcases List.mem_cons.mp hc with rfl | hc
          · exact .inr List.mem_cons_self
          · rcases k3 c hc with z | z
            · exact .inl z
            · exact .inr (List.mem_cons_of_mem _ z)
  | .sh d, v, f, [], h, nd, e1, e2 => by simp [nodeO] at e1
  | .sh d, v, f, j :: js, h, nd, e1, e2 => by simp [nodeO] at e1
  | .tup d, v, f, [], h, nd, e1, e2 => by simp [nodeO] at e1
  | .tup d, v, f, j :: js, h, nd, e1, e2 => by simp [nodeO] at e1
  | .ins c d, v, f, [], h, nd, e1, e2 => by simp [nodeO] at e1
  | .ins c d, v, f, j :: js, h, nd, e1, e2 => by simp [nodeO] at e1
theorem OReps.upd {S : Hp} {op : Lop} {e : O} {w : V} {f0 : List Addr} (he : ORep g S H e w f0) {a : Addr} {vs0 : List V} {os0 : List O} (ha : H a = some (.lst vs0)) (lo : ∀ j, op = .put j → j < os0.length) :
    ∀ (os : List O) (vs : List V) (f : List Addr) (j : Nat) (js : List Nat), OReps g S H os vs f → (f0 ++ f).Nodup → ∀ {o' : O} {v' : V}, os[j]? = some o' → vs[j]? = some v' → nodeO o' js = some (.lst os0) → nodeV H v' js = some (.ref a) →
      a ∈ f ∧ vs0.length = os0.length ∧ ∃ f', OReps g S (upd H a (.lst (op.on vs0 w))) (os.set j (updO op e o' js)) vs f' ∧ (∀ b ∈ f', b ∈ f0 ∨ b ∈ f) ∧ f'.Nodup
  | [], vs, f, j, js, h, nd, o', v', e1, e2, e3, e4 => by simp at e1
  | o :: os, vs, f, 0, js, h, nd, o', v', e1, e2, e3, e4 => by
    simp only [OReps] at h
    obtain ⟨v, r, f1, f2, rfl, rfl, h1, h2⟩ := h
    have e1 : o = o' := by simpa using e1
    have e2 : v = v' := by simpa using e2
    subst e1; subst e2
    have nd1 : (f0 ++ f1).Nodup := by
      rw [← List.append_assoc] at nd
      exact (List.nodup_append.mp nd).1
    obtain ⟨k1, k0, f3, k2, k3, k4⟩ := ORep.upd he ha lo o v f1 js h1 nd1 e3 e4
    have dis : ∀ b ∈ f2, b ∉ f1 ∧ b ∉ f0 := fun b hb => by
      rw [← List.append_assoc] at nd
      have := (List.nodup_append.mp nd).2.2
      exact ⟨fun z => this b (List.mem_append_right _ z) b hb rfl, fun z => this b (List.mem_append_left _ z) b hb rfl⟩
    refine ⟨List.mem_append_left _ k1, k0, f3 ++ f2, ?_, fun b hb => ?_, ?_⟩
    · show OReps g S _ (updO op e o js :: os) _ _
      simp only [OReps]
      exact ⟨v, r, f3, f2, rfl, rfl, k2, OReps.mono (Same.refl _) _ _ _ (fun b hb u q => upd_keep (mem_ne k1 (dis b hb).1) q) h2⟩
    · rcases List.mem_append.mp hb with hb | hb
      · rcases k3 b hb with z | z
        · exact .inl z
        · exact .inr (List.mem_append_left _ z)
      · exact .inr (List.mem_append_right _ hb)
    · rw [List.nodup_append]
      refine ⟨k4, (List.nodup_append.mp (List.nodup_append.mp nd).2.1).2.1, fun x hx y hy e => ?_⟩
      subst e
      rcases k3 x hx with z | z
      · exact (dis x hy).2 z
      · exact (dis x hy).1 z
  | o :: os, vs, f, j + 1, js, h, nd, o', v', e1, e2, e3, e4 => by
    simp only [OReps] at h
    obtain ⟨v, r, f1, f2, rfl, rfl, h1, h2⟩ := h
    have nd2 := nodup_sub nd
    have ndr : (f0 ++ f2).Nodup := (List.nodup_append.mp nd2).2.1
    obtain ⟨k1, k0, f3, k2, k3, k4⟩ := OReps.upd he ha lo os r f2 j js h2 ndr (by simpa using e1) (by simpa using e2) e3 e4
    have dis : ∀ b ∈ f1, b ∉ f2 ∧ b ∉ f0 := fun b hb => by
      have := (List.nodup_append.mp nd2).2.2
      exact ⟨fun z => this b hb b (List.mem_append_right _ z) rfl, fun z => this b hb b (List.mem_append_left _ z) rfl⟩
    refine ⟨List.mem_append_right _ k1, k0, f1 ++ f3, ?_, fun b hb => ?_, ?_⟩
    · show OReps g S _ (o :: os.set j _) _ _
      simp only [OReps]
      exact ⟨v, r, f1, f3, rfl, rfl, ORep.mono (Same.refl _) _ _ _ (fun b hb u q => upd_keep (mem_ne k1 (dis b hb).1) q) h1, k2⟩
    · rcases List.mem_append.mp hb with hb | hb
      · exact .inr (List.mem_append_left _ hb)
      · rcases k3 b hb with z | z
        · exact .inl z
        · exact .inr (List.mem_append_right _ z)
    · rw [List.nodup_append]
      refine ⟨(List.nodup_append.mp nd2).1, k4, fun x hx y hy e => ?_⟩
      subst e
      rcases k3 x hy with z | z
      · exact (dis x hx).2 z
      · exact (dis x hx).1 z
end
theorem Slots.upd {S : Hp} {op : Lop} {e : O} {w : V} {f0 : List Addr} (he : ORep g S H e w f0) {a : Addr} {vs0 : List V} {os0 : List O} (ha : H a = some (.lst vs0)) (lo : ∀ j, op = .put j → j < os0.length) {js : List Nat} :
    ∀ (ρ : En) (σ : Sg) (f : List Addr) (i : Nat), Slots g S H ρ σ f → (f0 ++ f).Nodup → ∀ {o : O} {v : V}, ρ[i]? = some (some o) → σ[i]? = some (some v) → nodeO o js = some (.lst os0) → nodeV H v js = some (.ref a) →
      a ∈ f ∧ vs0.length = os0.length ∧ ∃ f', Slots g S (upd H a (.lst (op.on vs0 w))) (ρ.set i (some (updO op e o js))) σ f' ∧ (∀ b ∈ f', b ∈ f0 ∨ b ∈ f) ∧ f'.Nodup
  | [], σ, f, i, h, nd, o, v, e1, e2, e3, e4 => by simp at e1
  | none :: ρ, σ, f, 0, h, nd, o, v, e1, e2, e3, e4 => by simp at e1
  | none :: ρ, σ, f, i + 1, h, nd, o, v, e1, e2, e3, e4 => by
    obtain ⟨x, σ', rfl, h⟩ := h
    obtain ⟨k1, k0, f3, k2, k3, k4⟩ := Slots.upd he ha lo ρ σ' f i h nd (by simpa using e1) (by simpa using e2) e3 e4
    exact ⟨k1, k0, f3, ⟨x, σ', rfl, k2⟩, k3, k4⟩
  | some o' :: ρ, σ, f, 0, h, nd, o, v, e1, e2, e3, e4 => by
    obtain ⟨v', σ', f1, f2, rfl, rfl, h1, h2⟩ := h
    have e1 : o' = o := by simpa using e1
    have e2 : v' = v := by simpa using e2
    subst e1; subst e2
    have nd1 : (f0 ++ f1).Nodup := by
      rw [← List.append_assoc] at nd
      exact (List.nodup_append.mp nd).1
    obtain ⟨k1, k0, f3, k2, k3, k4⟩ := ORep.upd he ha lo o' v' f1 js h1 nd1 e3 e4
    have dis : ∀ b ∈ f2, b ∉ f1 ∧ b ∉ f0 := fun b hb => by
      rw [← List.append_assoc] at nd
      have := (List.nodup_append.mp nd).2.2
      exact ⟨fun z => this b (List.mem_append_right _ z) b hb rfl, fun z => this b (List.mem_append_left _ z) b hb rfl⟩
    refine ⟨List.mem_append_left _ k1, k0, f3 ++ f2, ⟨v', σ', f3, f2, rfl, rfl, k2, Slots.mono (Same.refl _) _ _ _ (fun b hb u q => upd_keep (mem_ne k1 (dis b hb).1) q) h2⟩, fun b hb => ?_, ?_⟩
    · rcases List.mem_append.mp hb with hb | hb
      · rcases k3 b hb with z | z
        · exact .inl z
        · exact .inr (List.mem_append_left _ z)
      · exact .inr (List.mem_append_right _ hb)
    · rw [List.nodup_append]
      refine ⟨k4, (List.nodup_append.mp (List.nodup_append.mp nd).2.1).2.1, fun x hx y hy e => ?_⟩
      subst e
      rcases k3 x hx with z | z
      · exact (dis x hy).2 z
      · exact (dis x hy).1 z
  | some o' :: ρ, σ, f, i + 1, h, nd, o, v, e1, e2, e3, e4 => by
    obtain ⟨v', σ', f1, f2, rfl, rfl, h1, h2⟩ := h
    have nd2 := nodup_sub nd
    have ndr : (f0 ++ f2).Nodup := (List.nodup_append.mp nd2).2.1
    obtain ⟨k1, k0, f3, k2, k3, k4⟩ := Slots.upd he ha lo ρ σ' f2 i h2 ndr (by simpa using e1) (by simpa using e2) e3 e4
    have dis : ∀ b ∈ f1, b ∉ f2 ∧ b ∉ f0 := fun b hb => by
      have := (List.nodup_append.mp nd2).2.2
      exact ⟨fun z => this b hb b (List.mem_append_right _ z) rfl, fun z => this b hb b (List.mem_append_left _ z) rfl⟩
    refine ⟨List.mem_append_right _ k1, k0, f1 ++ f3, ⟨v', σ', f1, f3, rfl, rfl, ORep.mono (Same.refl _) _ _ _ (fun b hb u q => upd_keep (mem_ne k1 (dis b hb).1) q) h1, k2⟩, fun b hb => ?_, ?_⟩
    · rcases List.mem_append.mp hb with hb | hb
      · exact .inr (List.mem_append_left _ hb)
      · rcases k3 b hb with z | z
        · exact .inl z
        · exact .inr (List.mem_append_right _ z)
    · rw [List.nodup_append]
      refine ⟨(List.nodup_append.mp nd2).1, k4, fun x hx y hy e => ?_⟩
      subst e
      rcases k3 x hy with z | z
      · exact (dis x hx).2 z
      · exact (dis x hx).1 z
/-- the state behind a write -/
theorem StB.upd (s : StB g B Z F ρ σ H) {op : Lop} {r : R} {e : O} {w : V} {f0 : List Addr} (p : PR g Z F H r w H' f0) (er : r.o = some e) {i : Nat} {o : O} {v : V} {js : List Nat} {a : Addr} {os0 : List O} {vs0 : List V} (lo : ∀ j, op = .put j → j < os0.length) (e1 : ρ[i]? = some (some o)) (e2 : σ[i]? = some (some v)) (e3 : nodeO o js = some (.lst os0)) (e4 : nodeV H' v js = some (.ref a)) (ha : H' a = some (.lst vs0)) :
    vs0.length = os0.length ∧ ∃ F', StB g B Z F' (ρ.set i (some (updO op e o js))) σ (upd H' a (.lst (op.on vs0 w))) := by
  obtain ⟨k1, k2, k3, k4⟩ := p.sto s er
  obtain ⟨m1, m0, F', m2, m3, m4⟩ := Slots.upd (op := op) k1 ha lo ρ σ F i k2 k3 e1 e2 e3 e4
  have nZ : ¬ Z a := s.st.dj a m1
  have nB : B a = none := s.out a m1
  have up : ∀ b u, b ≠ a → H' b = some u → L2.upd H' a (.lst (op.on vs0 w)) b = some u := fun b u hb q => upd_keep hb q
  refine ⟨m0, F', ⟨m4, fun b hb z => ?_, fun b z q => ?_, ?_⟩, fun b u q => ?_, fun b hb => ?_⟩
  · rcases m3 b hb with y | y
    · exact (k4 b y).1 z
    · exact s.st.dj b y z
  · have hb : b ≠ a := fun e => nZ (e ▸ z)
    rw [upd_ne hb] at q
    exact s.st.zd b z (p.same.free q)
  · refine Slots.mono (hid_le fun b u n q => ?_) _ _ _ (fun b _ u q => q) m2
    have hb : b ≠ a := fun e => n (.inr (.inl (e ▸ m1)))
    refine ⟨fun z => n ?_, up b u hb q⟩
    rcases z with z | z
    · rcases m3 b z with y | y
      · exact .inl y
      · exact .inr (.inl y)
    · exact .inr (.inr z)
  · have hb : b ≠ a := fun e => by rw [e, nB] at q; cases q
    exact up b u hb (p.same b u (s.same b u q))
  · rcases m3 b hb with y | y
    · exact (k4 b y).2
    · exact s.out b y
end TL

namespace TL
open PySem PySem.Spec L2
variable {g : Gc} {pg : Pg} {B B1 : Hp} {Z : Addr → Prop} {F : List Addr} {ρ : En} {σ : Sg} {H H' H1 H2 : Hp} {W : WX}

theorem PR.later {r : R} {v : V} {f : List Addr} (p : PR g Z F H r v H1 f) (s : Same H1 H2) : PR g Z F H r v H2 f :=
  ⟨p.same.trans s, p.nd, p.fr, p.rr.mono (hid_mono s fun a u e z => z) (hid_mono s fun a u e z => z) s⟩

/-! ### a place in an owned tree -/
inductive Pa where
  | var (i : Nat) | idx (p : Pa) (e : E)
structure Pl where
  i : Nat
  js : List Nat
  o : O
def evP (pg : Pg) : Pa → En → M Pl
  | .var i, ρ => match ρ[i]? with
    | some (some o) => .ok ⟨i, [], o⟩
    | _ => .stuck
  | .idx p e, ρ => evP pg p ρ >>= fun q => evE pg e ρ >>= fun r => match q.o, r.d with
    | .lst os, .int k => match ixN os.length k with
      | some j => match os[j]? with
        | some o => .ok ⟨q.i, q.js ++ [j], o⟩
        | none => .stuck
      | none => .stuck
    | _, _ => .stuck
def tP (g : Gc) (pg : Pg) (W : WX) : Pa → TE
  | .var i => tVar i
  | .idx p e => tOp (rIx g.K) (tP g pg W p) (tE g pg W e)
structure PlOk (ρ : En) (σ : Sg) (H' : Hp) (q : Pl) (w : V) : Prop where
  ex : ∃ o0 v0, ρ[q.i]? = some (some o0) ∧ σ[q.i]? = some (some v0) ∧ nodeO o0 q.js = some q.o ∧ nodeV H' v0 q.js = some w
theorem PlOk.mono {q : Pl} {w : V} (h : PlOk ρ σ H q w) (s : Same H H') : PlOk ρ σ H' q w := by
  obtain ⟨o0, v0, h1, h2, h3, h4⟩ := h.ex
  exact ⟨o0, v0, h1, h2, h3, nodeV_mono s _ _ _ h4⟩
mutual
theorem ORep.node {S : Hp} : ∀ (o : O) (v : V) (f : List Addr) (js : List Nat) {o' : O}, ORep g S H o v f → nodeO o js = some o' → ∃ w f', nodeV H v js = some w ∧ ORep g S H o' w f' ∧ ∀ a ∈ f', a ∈ f
  | o, v, f, [], o', h, e => by
    cases o <;> simp only [nodeO, Option.some.injEq] at e <;> subst e <;> exact ⟨v, f, rfl, h, fun _ z => z⟩
  | .lst os, v, f, j :: js, o', h, e => by
    simp only [ORep] at h
    obtain ⟨b, vs, f', rfl, q, rfl, r⟩ := h
    simp only [nodeO] at e
    cases eo : os[j]? with
    | none => simp [eo] at e
    | some x =>
      simp only [eo] at e
      obtain ⟨w, f2, h1, h2, h3⟩ := OReps.node os vs f' j js r eo e
      obtain ⟨y, h4, h5⟩ := h1
      refine ⟨w, f2, ?_, h2, fun a ha => List.mem_cons_of_mem _ (h3 a ha)⟩
      simp only [nodeV, q, h4]
      exact h5
  | .sh d, v, f, j :: js, o', h, e => by simp [nodeO] at e
  | .tup d, v, f, j :: js, o', h, e => by simp [nodeO] at e
  | .ins c d, v, f, j :: js, o', h, e => by simp [nodeO] at e
theorem OReps.node {S : Hp} : ∀ (os : List O) (vs : List V) (f : List Addr) (j : Nat) (js : List Nat) {x o' : O}, OReps g S H os vs f → os[j]? = some x → nodeO x js = some o' → ∃ w f', (∃ y, vs[j]? = some y ∧ nodeV H y js = some w) ∧ ORep g S H o' w f' ∧ ∀ a ∈ f', a ∈ f
  | [], vs, f, j, js, x, o', h, e, e2 => by simp at e
  | o :: os, vs, f, 0, js, x, o', h, e, e2 => by
    simp only [OReps] at h
    obtain ⟨v, r, f1, f2, rfl, rfl, h1, h2⟩ := h
    have e : o = x := by simpa using e
    subst e
    obtain ⟨w, f3, k1, k2, k3⟩ := ORep.node o v f1 js h1 e2
    exact ⟨w, f3, ⟨v, rfl, k1⟩, k2, fun a ha => List.mem_append_left _ (k3 a ha)⟩
  | o :: os, vs, f, j + 1, js, x, o', h, e, e2 => by
    simp only [OReps] at h
    obtain ⟨v, r, f1, f2, rfl, rfl, h1, h2⟩ := h
    obtain ⟨w, f3, ⟨y, k0, k1⟩, k2, k3⟩ := OReps.node os r f2 j js h2 (by simpa using e) e2
    exact ⟨w, f3, ⟨y, by simpa using k0, k1⟩, k2, fun a ha => List.mem_append_right _ (k3 a ha)⟩
end
theorem PlOk.rep (st : StE g Z F ρ σ H) {q : Pl} {w : V} (h : PlOk ρ σ H q w) : ∃ f, ORep g (hid (fun a => a ∈ F ∨ Z a) H) H q.o w f := by
  obtain ⟨o0, v0, h1, h2, h3, h4⟩ := h.ex
  obtain ⟨v, f', e1, e2, e3⟩ := Slots.get ρ σ F st.sl h1
  rw [h2] at e1
  cases e1
  obtain ⟨w', f2, k1, k2, _⟩ := ORep.node _ _ _ q.js e2 h3
  rw [h4] at k1
  cases k1
  exact ⟨f2, k2⟩
def SndP (g : Gc) (t : TE) (W : WX) (ρ : En) : M Pl → Prop
  | .stuck => True
  | .ok q => ∀ σ H Z F Q, StE g Z F ρ σ H → (∀ w H', Same H H' → PlOk ρ σ H' q w → Q w H') → t σ H Q
  | .rai c p => ∀ σ H Z F Q, StE g Z F ρ σ H → (∀ d H', Same H H' → ExcOk g H H' p d → W (.ref (g.cls c)) d σ H') → t σ H Q
theorem sndP (G : GOk g pg) : ∀ (p : Pa) (W : WX) (ρ : En), SndP g (tP g pg W p) W ρ (evP pg p ρ)
  | .var i, W, ρ => by
    unfold evP
    split
    · rename_i o e
      intro σ H Z F Q st h
      obtain ⟨v, f', e1, e2, e3⟩ := Slots.get ρ σ F st.sl e
      exact ⟨v, e1, h v H (Same.refl _) ⟨o, v, e, e1, by cases o <;> rfl, rfl⟩⟩
    · exact trivial
  | .idx p e, W, ρ => by
    have ih := sndP G p W ρ
    have he := sndE G e W ρ
    unfold evP
    cases ep : evP pg p ρ with
    | stuck => exact trivial
    | rai c k =>
      rw [ep] at ih
      exact fun σ H Z F Q st h => ih σ H Z F _ st h
    | ok q =>
      rw [ep] at ih
      rw [M.bind_ok]
      cases ee : evE pg e ρ with
      | stuck => exact trivial
      | rai c k =>
        rw [ee] at he
        exact fun σ H Z F Q st h => ih σ H Z F _ st fun w H1 s1 k1 => he σ H1 Z F _ (st.ext0 s1) fun d H' s x => h d H' (s1.trans s) (x.pre s1)
      | ok r =>
        rw [ee] at he
        rw [M.bind_ok]
        split
        · rename_i os k eqo ed
          cases ei : ixN os.length k with
          | none => exact trivial
          | some j =>
            cases eo : os[j]? with
            | none => simp only [eo]; exact trivial
            | some x =>
              simp only [eo]
              refine fun σ H Z F Q st h => ih σ H Z F _ st fun w H1 s1 k1 => he σ H1 Z F _ (st.ext0 s1) fun v H2 f p => ?_
              have st2 := (st.ext0 s1).ext0 p.same
              have k2 := k1.mono p.same
              obtain ⟨f', hn⟩ := k2.rep st2
              rw [eqo] at hn
              simp only [ORep] at hn
              obtain ⟨a, vs, f3, rfl, q1, rfl, rr⟩ := hn
              obtain ⟨y, f4, q2, q3, q4⟩ := OReps.get rr eo
              have kv := p.read (st.ext0 s1)
              rw [ed] at kv
              simp only [Rep] at kv
              subst kv
              refine .inl ⟨a, vs, k, y, rfl, rfl, SqL.of q1, ?_, h y H2 (s1.trans p.same) ?_⟩
              · unfold atI
                rw [OReps.len rr, ei]
                exact q2
              · obtain ⟨o0, v0, h1, h2, h3, h4⟩ := k2.ex
                exact ⟨o0, v0, h1, h2, nodeO_snoc _ _ (h3.trans (by rw [eqo])) eo, nodeV_snoc _ _ h4 q1 q2⟩
        · exact trivial
/-- the new state -/
def updR (ρ : En) (q : Pl) (op : Lop) (r : R) : Option En := match ρ[q.i]?, r.o with
  | some (some o0), some x => some (ρ.set q.i (some (updO op x o0 q.js)))
  | _, _ => none
def Pl.isL (q : Pl) : Bool := match q.o with
  | .lst _ => true
  | _ => false
theorem Pl.isL_of {q : Pl} (h : q.isL = true) : ∃ os, q.o = .lst os := by
  unfold Pl.isL at h
  split at h
  · exact ⟨_, by assumption⟩
  · cases h
def appR (ρ : En) (q : Pl) (r : R) : Ou := match q.o with
  | .lst os => if os.length < sizeLine then ouOf (updR ρ q .app r) else .stuck
  | _ => .stuck
theorem snd_app {tp te : TE} {m : M Pl} {n : M R} (h1 : SndP g tp W ρ m) (h2 : SndE g te W ρ n) : SndS g (tDrop (tBM g.K "list" rAppend tp (tCons te tNil))) W ρ (onM m ρ fun q => if q.isL = true then onM n ρ fun r => appR ρ q r else .stuck) := by
  intro σ H Z B F D st h
  cases m with
  | stuck => exact h.elim
  | rai c p => exact h1 σ H Z F _ st.st fun d H' s x => h d σ H' F (st.ext s) (excOk_base st x)
  | ok q =>
    have rd : ∀ {H1 w}, Same H H1 → PlOk ρ σ H1 q w → (∃ os, q.o = .lst os) → ∃ a vs, w = .ref a ∧ H1 a = some (.lst vs) := fun {H1 w} s k ⟨os, e⟩ => by
      obtain ⟨f, hn⟩ := k.rep (st.st.ext0 s)
      rw [e] at hn
      simp only [ORep] at hn
      obtain ⟨a, vs, f3, rfl, q1, _⟩ := hn
      exact ⟨a, vs, rfl, q1⟩
    have h : Post g W B Z D (if q.isL = true then onM n ρ fun r => appR ρ q r else .stuck) := h
    by_cases hq : q.isL = true
    · rw [if_pos hq] at h
      have hq := Pl.isL_of hq
      cases n with
      | stuck => exact h.elim
      | rai c p =>
        refine h1 σ H Z F _ st.st fun w H1 s1 k1 => ?_
        obtain ⟨a, vs, rfl, q1⟩ := rd s1 k1 hq
        exact ⟨.inl ⟨rfl, vs, SqL.of q1⟩, h2 σ H1 Z F _ (st.st.ext0 s1) fun d H' s x => h d σ H' F (st.ext (s1.trans s)) (excOk_base st (x.pre s1))⟩
      | ok r =>
        have h : Post g W B Z D (appR ρ q r) := h
        unfold appR at h
        split at h
        · rename_i os eq
          split at h
          · rename_i hz
            refine h1 σ H Z F _ st.st fun w H1 s1 k1 => ?_
            obtain ⟨a, vs, rfl, q1⟩ := rd s1 k1 ⟨os, eq⟩
            refine ⟨.inl ⟨rfl, vs, SqL.of q1⟩, h2 σ H1 Z F _ (st.st.ext0 s1) fun v H2 f p => ?_⟩
            unfold updR at h
            split at h
            · rename_i o0 x e0 ex
              have k2 := k1.mono p.same
              obtain ⟨o0', v0, h3, h4, h5, h6⟩ := k2.ex
              rw [e0] at h3
              cases h3
              rw [eq] at h5
              have q2 := p.same _ _ q1
              obtain ⟨m0, F', s'⟩ := (st.ext s1).upd (op := .app) p ex (fun j e => by cases e) e0 h4 h5 h6 q2
              exact ⟨a, vs, v, rfl, rfl, q2, by rw [m0]; exact hz, h _ _ F' s'⟩
            · exact h.elim
          · exact h.elim
        · exact h.elim
    · rw [if_neg hq] at h
      exact h.elim
def ixD (n : Nat) : D → Option Nat
  | .int k => ixN n k
  | _ => none
def putR (ρ : En) (r : R) (q : Pl) (k : R) : Ou := match q.o with
  | .lst os => match ixD os.length k.d with
    | some j => ouOf (updR ρ q (.put j) r)
    | none => .stuck
  | _ => .stuck
theorem ixN_lt {n : Nat} {i : Int} {j : Nat} (h : ixN n i = some j) : j < n := (ixN_seq h).2.1
theorem snd_putS {tp te tk : TE} {m : M Pl} {n k : M R} (h0 : SndE g te W ρ n) (h1 : SndP g tp W ρ m) (h2 : SndE g tk W ρ k) : SndS g (tAsg te (gSub tp tk rSetL)) W ρ (onM n ρ fun r => onM m ρ fun q => onM k ρ fun i => putR ρ r q i) := by
  intro σ H Z B F D st h
  cases n with
  | stuck => exact h.elim
  | rai c p => exact h0 σ H Z F _ st.st fun d H' s x => h d σ H' F (st.ext s) (excOk_base st x)
  | ok r =>
    cases m with
    | stuck => exact h.elim
    | rai c p => exact h0 σ H Z F _ st.st fun v H1 f p1 => h1 σ H1 Z F _ (st.st.ext0 p1.same) fun d H' s x => h d σ H' F (st.ext (p1.same.trans s)) (excOk_base st (x.pre p1.same))
    | ok q =>
      cases k with
      | stuck => exact h.elim
      | rai c p => exact h0 σ H Z F _ st.st fun v H1 f p1 => h1 σ H1 Z F _ (st.st.ext0 p1.same) fun w H2 s2 k2 => h2 σ H2 Z F _ ((st.st.ext0 p1.same).ext0 s2) fun d H' s x => h d σ H' F (st.ext (p1.same.trans (s2.trans s))) (excOk_base st ((x.pre s2).pre p1.same))
      | ok i =>
        have h : Post g W B Z D (putR ρ r q i) := h
        refine h0 σ H Z F _ st.st fun v H1 f p1 => h1 σ H1 Z F _ (st.st.ext0 p1.same) fun w H2 s2 k2 => h2 σ H2 Z F _ ((st.st.ext0 p1.same).ext0 s2) fun y H3 f3 p3 => ?_
        unfold putR at h
        split at h
        · rename_i os eq
          split at h
          · rename_i j ej
            unfold updR at h
            split at h
            · rename_i o0 x e0 ex
              have s13 : Same H1 H3 := s2.trans p3.same
              have k3 := k2.mono p3.same
              have st3 := st.st.ext0 (p1.same.trans s13)
              obtain ⟨fq, hn⟩ := k3.rep st3
              rw [eq] at hn
              simp only [ORep] at hn
              obtain ⟨a, vs, f4, rfl, q1, rfl, rr⟩ := hn
              have ln := OReps.len rr
              obtain ⟨o0', v0, h3, h4, h5, h6⟩ := k3.ex
              rw [e0] at h3
              cases h3
              rw [eq] at h5
              cases hi : i.d <;> rw [hi] at ej <;> simp only [ixD, reduceCtorEq] at ej
              rename_i kk
              have ky := p3.read ((st.st.ext0 p1.same).ext0 s2)
              rw [hi] at ky
              simp only [Rep] at ky
              subst ky
              have lj := ixN_lt ej
              obtain ⟨m0, F', s'⟩ := st.upd (op := .put j) (p1.later s13) ex (fun j' e => by cases e; exact lj) e0 h4 h5 h6 q1
              exact ⟨a, vs, kk, j, rfl, rfl, q1, by rw [m0]; exact ej, h _ _ F' s'⟩
            · exact h.elim
          · exact h.elim
        · exact h.elim
end TL

namespace TL
open PySem PySem.Spec L2
variable {g : Gc} {pg : Pg} {W : WX}

/-! ### errors raised -/
/-- what an __init__(self, at) keeps -/
def spAt (C : Addr) : Sp := fun vs H Q _ => ∃ (a : Addr) (v : V), vs = [.ref a, v] ∧ H a = some (exo a C none) ∧ ∀ dx, H dx = none → dx ≠ a → Q .non (upd (upd H dx (exd dx [("at", v)])) a (exo a C (some dx)))
def tRai (C : Addr) (W : WX) (te : TE) : TS := fun _ σ H => tCons te tNil σ H fun vs H1 => vs.length ≤ sizeLine ∧ W (.ref C) none σ H1
def tRaiP (C : Addr) (W : WX) (te : TE) : TS := fun _ σ H => tMkO C (spAt C) [] (tCons te tNil) σ H fun cls d H' => W cls d σ H'
section
variable {B : Hp} {Z : Addr → Prop} {F : List Addr} {ρ : En} {σ : Sg} {H H' H1 : Hp}
theorem snd_rai {c : Nat} {te : TE} {m : M R} (h1 : SndE g te W ρ m) : SndS g (tRai (g.cls c) W te) W ρ (onM m ρ fun _ => .rai c none ρ) := by
  intro σ H Z B F D st h
  cases m with
  | stuck => exact h.elim
  | rai c p => exact (snd_cons (m := .rai c p) (n := .ok []) h1 snd_nil) σ H Z F _ st.st fun d H' s x => h d σ H' F (st.ext s) (excOk_base st x)
  | ok r =>
    refine (snd_cons (m := .ok r) (n := .ok []) h1 snd_nil) σ H Z F _ st.st fun vs H' f p => ⟨?_, h none σ H' F (st.ext p.same) rfl⟩
    have := Reps.len (p.read st.st)
    rw [this, sizeLine_eq]
    exact (by decide : 1 ≤ 16777216)
theorem snd_raiP {c : Nat} {te : TE} {m : M R} (h1 : SndE g te W ρ m) : SndS g (tRaiP (g.cls c) W te) W ρ (onM m ρ fun r => match r.d with
    | .int i => .rai c (some i) ρ
    | _ => .stuck) := by
  intro σ H Z B F D st h
  cases m with
  | stuck => exact h.elim
  | rai c p =>
    unfold tRaiP tMkO
    exact (snd_cons (m := .rai c p) (n := .ok []) h1 snd_nil) σ H Z F _ st.st fun d H' s x => h d σ H' F (st.ext s) (excOk_base st x)
  | ok r =>
    have h : Post g W B Z D (match r.d with
      | .int i => .rai c (some i) ρ
      | _ => .stuck) := h
    cases ed : r.d with
    | int i =>
      rw [ed] at h
      unfold tRaiP tMkO
      refine (snd_cons (m := .ok r) (n := .ok []) h1 snd_nil) σ H Z F _ st.st fun vs H1 f p => ?_
      have k := p.read st.st
      obtain ⟨v, rfl, k1⟩ := reps1 (show Reps g _ [r.d] vs from k)
      rw [ed] at k1
      simp only [Rep] at k1
      subst k1
      refine ⟨by show 1 ≤ 1000; decide, fun a ha => ⟨a, .int i, rfl, upd_same, fun dx hdx hne => ⟨rfl, dx, [("at", .int i)], upd_same, by rw [upd_ne hne, upd_same], ?_, ?_⟩⟩⟩
      · rw [upd_ne hne] at hdx
        exact hdx
      · have hd1 : H1 dx = none := by
          rw [upd_ne hne] at hdx
          exact hdx
        have sm : Same H1 (upd (del (upd (upd (upd H1 a (exo a (g.cls c) none)) dx (exd dx [("at", .int i)])) a (exo a (g.cls c) (some dx))) a) dx (.xd [("at", .int i)])) := fun b u e => by
          have nb : b ≠ a := ne_of_none e ha
          have nd : b ≠ dx := ne_of_none e hd1
          rw [upd_ne nd, del_ne nb, upd_ne nb, upd_ne nd, upd_ne nb]
          exact e
        have s0 := p.same.trans sm
        exact h (some dx) σ _ F (st.ext s0) (excOk_base st ⟨dx, rfl, p.same.free hd1, upd_same⟩)
    | _ =>
      rw [ed] at h
      exact h.elim
end
/-! ### the inner form of statements -/
mutual
inductive S where
  | set (i : Nat) (e : E) (keep : Bool) | par (i j : Nat) (a b : E) | unp (is : List Nat) (e : E)
  | app (p : Pa) (e : E) | put (p : Pa) (k e : E) | drop (e : E)
  | ite (c : B) (a b : Ss) | whl (c : B) (b : Ss) | for (tg : Tg) (it : I) (b : Ss)
  | ret (e : E) | retV (i : Nat) | retN | brk | cnt | pass
  /-- never come to -/
  | nev
  /-- raise C(e): without, with a payload -/
  | rai (c : Nat) (e : E) | raiP (c : Nat) (e : E)
inductive Ss where
  | nil | cons (s : S) (r : Ss) | share (i : Nat) (r : Ss)
end
mutual
noncomputable def evS (pg : Pg) : S → En → Ou
  | .set i e keep, ρ => onM (evE pg e ρ) ρ fun r => setR i keep r ρ
  | .par i j a b, ρ => onM (evE pg a ρ >>= fun r => (evE pg b ρ >>= fun r => M.ok [] >>= fun rs => .ok (r :: rs)) >>= fun rs => .ok (r :: rs)) ρ fun rs => ouOf (parR i j rs ρ)
  | .unp is e, ρ => onM (evE pg e ρ) ρ fun r => ouOf (unpR is r ρ)
  | .app p e, ρ => onM (evP pg p ρ) ρ fun q => if q.isL = true then onM (evE pg e ρ) ρ fun r => appR ρ q r else .stuck
  | .put p k e, ρ => onM (evE pg e ρ) ρ fun r => onM (evP pg p ρ) ρ fun q => onM (evE pg k ρ) ρ fun i => putR ρ r q i
  | .drop e, ρ => onM (evE pg e ρ) ρ fun _ => .nx ρ
  | .ite c a b, ρ => onM (evB pg c ρ) ρ fun x => if x = true then evSs pg a ρ else evSs pg b ρ
  | .whl c b, ρ => whlW (fun ρ => evB pg c ρ) (fun ρ => evSs pg b ρ) ρ
  | .for tg it b, ρ => forR (bindD tg) (fun ρ => evSs pg b ρ) (evI pg it ρ) ρ
  | .ret e, ρ => onM (evE pg e ρ) ρ fun r => .ret (retR r)
  | .retV i, ρ => retV ρ i
  | .retN, _ => .ret (.sh .non)
  | .brk, ρ => .brk ρ
  | .cnt, ρ => .cnt ρ
  | .pass, ρ => .nx ρ
  | .nev, _ => .stuck
  | .rai c e, ρ => onM (evE pg e ρ) ρ fun _ => .rai c none ρ
  | .raiP c e, ρ => onM (evE pg e ρ) ρ fun r => match r.d with
    | .int i => .rai c (some i) ρ
    | _ => .stuck
noncomputable def evSs (pg : Pg) : Ss → En → Ou
  | .nil, ρ => .nx ρ
  | .cons s r, ρ => seqO (evS pg s ρ) fun ρ => evSs pg r ρ
  | .share i r, ρ => evSs pg r (shO ρ i)
end

/-! ### the text is of that form -/
def locB (sc : Scope) (x : Str) : Bool := match sc.names.lookup x with
  | some .local => true
  | some .cell => true
  | _ => false
def lclB (sc : Scope) (x : Str) : Bool := match sc.names.lookup x with
  | some .local => true
  | _ => false
def noComp : PySem.Expr → Bool
  | .ListComp _ _ _ _ => false
  | .SetComp _ _ _ _ => false
  | .DictComp _ _ _ _ _ => false
  | _ => true
def noTup : PySem.Expr → Bool
  | .Tuple _ _ _ => false
  | _ => true
def compOk (sc : Scope) (x : Str) (line : Nat) (v : PySem.Expr) : Bool := match v with
  | .ListComp _ _ s lp => lclB sc x && (line == lp.line) && !(s.names.any fun (n, k) => n == x && (k == .local || k == .cell))
  | .SetComp _ _ _ _ => false
  | .DictComp _ _ _ _ _ => false
  | _ => true
def chkP (c : Ck) : Pa → PySem.Expr → Bool
  | .var i, e => nameB c i e
  | .idx p k, .Subscript x y _ => chkP c p x && chkE c k y && noSlice y
  | _, _ => false
mutual
def chkS (c : Ck) : S → PySem.Stmt → Bool
  | .set i e _, .Assign [.Name x px] v _ => decide (c.N[i]? = some x) && locB c.sc x && compOk c.sc x px.line v && chkE c e v
  | .par i j a b, .Assign [.Tuple [.Name x px, .Name y py] _ _] (.Tuple [u, v] _ _) _ => decide (c.N[i]? = some x) && decide (c.N[j]? = some y) && decide (i ≠ j) && decide (x ≠ y) && lclB c.sc x && lclB c.sc y && chkE c a u && chkE c b v && noStar [u, v] && (py.line == px.line) &&
      !([u, v].all (foldedForSure 8)) && !([u, v].all (constantsAlone 8))
  | .unp is e, .Assign [.Tuple ts k p] v _ => tgB c c.sc (.tup is) (.Tuple ts k p) && chkE c e v && noComp v && noTup v
  | .app p e, .Expr (.Call (.Attribute o f ap) [y] [] cp) _ => decide (f = ("append" : Str)) && chkP c p o && noCall0 o && chkE c e y && noStar [y] && (ap.endLine == cp.line)
  | .put p k e, .Assign [.Subscript o i _] v _ => chkP c p o && chkE c k i && noSlice i && chkE c e v && noComp v
  | .drop e, .Expr v _ => chkE c e v && noComp v
  | .ite t a b, .If x y z _ => chkB c t x && chkSs c a y && chkSs c b z
  | .whl t b, .While x y [] _ => chkB c t x && chkSs c b y
  | .for tg it b, .For t i y [] _ => tgB c c.sc tg t && chkI c it i && chkSs c b y
  | .ret e, .Return (some v) _ => chkE c e v
  | .retV i, .Return (some v) _ => nameB c i v
  | .retN, .Return none _ => true
  | .brk, .Break _ => true
  | .cnt, .Continue _ => true
  | .pass, .Pass _ => true
  | .nev, _ => true
  | .rai k e, .Raise (some (.Call (.Name x _) [y] [] _)) none _ => decide (c.ex.lookup k = some x) && glB c.sc x && ndb x && chkE c e y && noStar [y]
  | .raiP k e, .Raise (some (.Call (.Name x _) [y] [] _)) none _ => decide (c.exi.lookup k = some x) && glB c.sc x && ndb x && chkE c e y && noStar [y]
  | .pass, .Expr (.Constant (.str _) _ _) _ => true
  | _, _ => false
def chkSs (c : Ck) : Ss → List PySem.Stmt → Bool
  | .nil, [] => true
  | .cons s r, x :: xs => chkS c s x && chkSs c r xs
  | .share _ r, xs => chkSs c r xs
  | _, _ => false
end

/-! ### the readings -/
mutual
def tS (g : Gc) (pg : Pg) (W : WX) : S → TS
  | .set i e _ => tAsg (tE g pg W e) (gName i)
  | .par i j a b => tPar i j (tCons (tE g pg W a) (tCons (tE g pg W b) tNil))
  | .unp is e => tAsg (tE g pg W e) (gTup g.K is.length (gNames is))
  | .app p e => tDrop (tBM g.K "list" rAppend (tP g pg W p) (tCons (tE g pg W e) tNil))
  | .put p k e => tAsg (tE g pg W e) (gSub (tP g pg W p) (tE g pg W k) rSetL)
  | .drop e => tDrop (tE g pg W e)
  | .ite c a b => tIfS (tB' g pg W c) (tSs g pg W a) (tSs g pg W b)
  | .whl c b => tWhile (tB' g pg W c) (tSs g pg W b)
  | .for tg it b => tFor (tI g pg W it) (tgT g tg) (tSs g pg W b)
  | .ret e => tRet (tE g pg W e)
  | .retV i => tRet (tVar i)
  | .retN => tRetN
  | .brk => tBreak
  | .cnt => tCont
  | .pass => tNext
  | .nev => tNever
  | .rai c e => tRai (g.cls c) W (tE g pg W e)
  | .raiP c e => tRaiP (g.cls c) W (tE g pg W e)
def tSs (g : Gc) (pg : Pg) (W : WX) : Ss → TS
  | .nil => tNext
  | .cons s r => tSeq (tS g pg W s) (tSs g pg W r)
  | .share _ r => tSs g pg W r
end
theorem snd_tgT (tg : Tg) : SndG g (tgT g tg) tg.slots (bindD tg) := by
  cases tg with
  | name i => exact snd_gName i
  | tup is => exact snd_gTup is
mutual
theorem sndS (G : GOk g pg) : ∀ (s : S) (W : WX) (ρ : En), SndS g (tS g pg W s) W ρ (evS pg s ρ)
  | .set i e keep, W, ρ => by simp only [evS, tS]; exact snd_set (sndE G e W ρ)
  | .par i j a b, W, ρ => by simp only [evS, tS]; exact snd_par (snd_cons (sndE G a W ρ) (snd_cons (sndE G b W ρ) snd_nil))
  | .unp is e, W, ρ => by simp only [evS, tS]; exact snd_unp (sndE G e W ρ)
  | .app p e, W, ρ => by simp only [evS, tS]; exact snd_app (sndP G p W ρ) (sndE G e W ρ)
  | .put p k e, W, ρ => by simp only [evS, tS]; exact snd_putS (sndE G e W ρ) (sndP G p W ρ) (sndE G k W ρ)
  | .drop e, W, ρ => by simp only [evS, tS]; exact snd_drop (sndE G e W ρ)
  | .ite c a b, W, ρ => by simp only [evS, tS]; exact snd_ifS (sndB G c W ρ) (sndSs G a W ρ) (sndSs G b W ρ)
  | .whl c b, W, ρ => by simp only [evS, tS]; exact snd_whl (fun ρ => sndB G c W ρ) (fun ρ => sndSs G b W ρ)
  | .for tg it b, W, ρ => by simp only [evS, tS]; exact snd_for (sndI G it W ρ) (snd_tgT tg) (fun ρ => sndSs G b W ρ)
  | .ret e, W, ρ => by simp only [evS, tS]; exact snd_ret (sndE G e W ρ)
  | .retV i, W, ρ => by simp only [evS, tS]; exact snd_retV
  | .retN, W, ρ => by simp only [evS, tS]; exact snd_retN
  | .brk, W, ρ => by simp only [evS, tS]; exact snd_brk
  | .cnt, W, ρ => by simp only [evS, tS]; exact snd_cnt
  | .pass, W, ρ => by simp only [evS, tS]; exact snd_next
  | .nev, W, ρ => by simp only [evS, tS]; exact snd_stuck
  | .rai c e, W, ρ => by simp only [evS, tS]; exact snd_rai (sndE G e W ρ)
  | .raiP c e, W, ρ => by simp only [evS, tS]; exact snd_raiP (sndE G e W ρ)
theorem sndSs (G : GOk g pg) : ∀ (s : Ss) (W : WX) (ρ : En), SndS g (tSs g pg W s) W ρ (evSs pg s ρ)
  | .nil, W, ρ => by simp only [evSs, tSs]; exact snd_next
  | .cons s r, W, ρ => by simp only [evSs, tSs]; exact snd_seq (sndS G s W ρ) (fun ρ => sndSs G r W ρ)
  | .share i r, W, ρ => by
    simp only [evSs, tSs]
    intro σ H Z B F D st h
    obtain ⟨F', st'⟩ := st.sh i
    exact sndSs G r W _ σ H Z B F' D st' h
end

/-! ### the text keeps the reading -/
structure StOk (g : Gc) (pg : Pg) (c : Ck) (W : WX) (X : Cx) : Prop extends CtxOk g pg c W X where
  pass : PassesOwn (model X.prog X.w) X.A X.env X.xe
  kind : X.env.scope.kind = .function
  fnT : ∀ x, X.fn x = true
  tk : Takes X W
  ex : ∀ (k : Nat) (x : Str), c.ex.lookup k = some x → X.mg x = some (.ref (g.cls k)) ∧ PySem.W.excIn X.K (g.cls k) [.type "ValueError", .type "Exception", .type "BaseException", .type "object"] "ValueError.__new__" = true ∧ PySem.W.keepIn X.K (.ref (g.cls k)) = true ∧
    PySem.W.subIn X.K (.ref (g.cls k)) (.type "BaseException") = some true ∧ PySem.W.typeIn X.K (.ref (g.cls k)) = some (.type "type")
  exi : ∀ (k : Nat) (x : Str), c.exi.lookup k = some x → X.mg x = some (.ref (g.cls k)) ∧ OexC X.K (g.cls k) ∧ ∃ (fI : Addr) (fd : FuncData) (ps : List Str) (lv : Nat), PySem.W.findIn X.K (.ref (g.cls k)) "__init__" = some (some (.ref fI)) ∧ PySem.W.typeIn X.K (.ref fI) = some (.type "function") ∧
    FnOk X.prog X.w X.K X.mg X.base (L2.CX X.prog X.w) lv fI fd ps (spAt (g.cls k)) ∧ Room (lv + 1) X.A ∧ Binds X.K fd ps []
theorem loc_of {sc : Scope} {x : Str} (h : locB sc x = true) : Loc sc x := by
  unfold locB at h
  split at h
  · exact .inl (by assumption)
  · exact .inr (by assumption)
  · cases h
theorem lcl_of {sc : Scope} {x : Str} (h : lclB sc x = true) : sc.names.lookup x = some .local := by
  unfold lclB at h
  split at h
  · assumption
  · cases h
theorem swaps_no {v : PySem.Expr} {t : Option PySem.Expr} {l : Nat} {env : Env} (h : noComp v = true) : swapsWith v t l env = pure false := by
  cases v <;> first | rfl | (simp [noComp] at h)
theorem sole_no {v : PySem.Expr} {t : PySem.Expr} {l : Nat} {env : Env} (h : noComp v = true) : swapsWithSole [t] v l env = pure false := swaps_no h
theorem stores_no {ts : List PySem.Expr} {k : Nat} {p : Pos} {v : PySem.Expr} {env : Env} (h : noTup v = true) : swappedStores [.Tuple ts k p] v env = pure none := by
  cases v <;> first | rfl | (simp [noTup] at h)
theorem stores_sub {o i : PySem.Expr} {p : Pos} {v : PySem.Expr} {env : Env} : swappedStores [.Subscript o i p] v env = pure none := by
  cases v <;> rfl
theorem sub_at {o i : PySem.Expr} {p : Pos} {env : Env} (h : noSlice i = true) : ∀ v, assign (.Subscript o i p) env v = (do
      let ov ← holding [v] (eval o env)
      let iv ← holding [v, ov] (eval i env)
      standAt p
      holding [v, ov, iv] (setItem ov iv v)
      release [v, ov, iv] []) := fun v => by
  cases i <;> first | rfl | (simp [noSlice] at h)
theorem stores_par {x y : Str} {px py : Pos} {kt k2 : Nat} {pt pt2 : Pos} {u v : PySem.Expr} {env : Env} (hk : env.scope.kind = .function) (hx : env.scope.names.lookup x = some .local) (hy : env.scope.names.lookup y = some .local) (hxy : x ≠ y) (hl : (py.line == px.line) = true) (ns : noStar [u, v] = true)
    (h1 : (!([u, v].all (foldedForSure 8))) = true) (h2 : (!([u, v].all (constantsAlone 8))) = true) :
    swappedStores [.Tuple [.Name x px, .Name y py] kt pt] (.Tuple [u, v] k2 pt2) env = pure (some [x, y]) := by
  have hb : env.blockKind = .function := by unfold Env.blockKind; rw [hk]; rfl
  have kx : env.kindOf x = some .local := hx
  have ky : env.kindOf y = some .local := hy
  have nsu : ∀ e ∈ [u, v], (match e with | .Starred .. => true | _ => false) = false := fun e he => by
    rcases List.mem_cons.mp he with rfl | he
    · cases e <;> first | rfl | (simp [noStar] at ns)
    · rcases List.mem_cons.mp he with rfl | he
      · have := noStar_tail ns
        cases e <;> first | rfl | (simp [noStar] at this)
      · cases he
  have ha : ([u, v].any fun | .Starred .. => true | _ => false) = false := by
    rw [List.any_eq_false]
    intro e he
    rw [nsu e he]
    decide
  have hxy' : (y == x) = false := by
    rw [beq_eq_false_iff_ne]
    exact Ne.symm hxy
  have hyx' : (x == y) = false := by
    rw [beq_eq_false_iff_ne]
    exact hxy
  unfold swappedStores
  simp only [hb, ha, Bool.not_eq_true'] at h1 h2 ⊢
  have c1 : (env.kindOf x == some .local && px.line == px.line) = true := by rw [kx]; simp
  have c2 : (env.kindOf y == some .local && py.line == px.line) = true := by rw [ky, hl]; rfl
  simp only [List.filterMap_cons, List.filterMap_nil, List.head?_cons, Option.map_some, Option.getD_some, PySem.Expr.pos, c1, c2, if_true]
  have hd : ([x, y].eraseDups.length != [x, y].length) = false := by
    simp [List.eraseDups_cons, hxy', hyx']
  simp only [hd, h1, h2]
  refine (if_neg (by simp)).trans ((if_neg (fun z => absurd (z.symm.trans ha) (by decide))).trans ?_)
  rfl
theorem loc_fn {X : Cx} {c : Ck} {W : WX} (ok : StOk g pg c W X) : ∀ x, (match c.sc.names.lookup x with | some .local => true | some .cell => true | _ => false) = true → Loc X.env.scope x ∧ (X.fn x = true ∨ X.env.scope.names.lookup x = some .local) := fun x h => ⟨by rw [ok.sc]; exact loc_of h, .inl (ok.fnT x)⟩
theorem peP : ∀ (p : Pa) (c : Ck) (W : WX) (X : Cx) (ast : PySem.Expr), CtxOk g pg c W X → chkP c p ast = true → PE X ast (tP g pg W p)
  | .var i, c, W, X, ast, ok, h => peE (.var i) c W X ast ok h
  | .idx p k, c, W, X, ast, ok, h => by
    cases ast <;> simp only [chkP, Bool.false_eq_true] at h
    simp only [Bool.and_eq_true] at h
    have hr : IxR X (rIx g.K) := by
      have := ix_seq (X := X)
      rw [ok.K] at this
      exact this
    exact pe_ix hr (peP p c W X _ ok h.1.1) (peE k c W X _ ok h.1.2) (plain_ix h.2)
theorem noSet_chkI {c : Ck} {it : I} {i : PySem.Expr} (h : chkI c it i = true) : noSet i = true := by
  cases it with
  | seq e => simp only [chkI, Bool.and_eq_true] at h; exact h.2
  | rng1 e => cases i <;> first | rfl | (simp [chkI] at h)
  | rng2 a b => cases i <;> first | rfl | (simp [chkI] at h)
set_option maxHeartbeats 4000000 in
mutual
theorem psS : ∀ (s : S) (c : Ck) (W : WX) (X : Cx) (ast : PySem.Stmt), StOk g pg c W X → chkS c s ast = true → PS X ast (tS g pg W s)
  | .set i e keep, c, W, X, ast, ok, h => by
    cases ast <;> try (simp only [chkS, Bool.false_eq_true] at h; done)
    rename_i ts v pos
    match ts, h with
    | [.Name x px], h =>
      simp only [chkS, Bool.and_eq_true, decide_eq_true_eq] at h
      obtain ⟨⟨⟨h1, h2⟩, h3⟩, h4⟩ := h
      have hN : X.N.Nodup := by rw [ok.N]; exact ok.nd
      have hi : X.N[i]? = some x := by rw [ok.N]; exact h1
      have lx : Loc X.env.scope x := by rw [ok.sc]; exact loc_of h2
      by_cases nc : noComp v = true
      · exact ps_set hN hi lx (peE e c W X v ok.toCtxOk h4) (swaps_no nc) (.inl (ok.fnT x))
      · cases v <;> try (exact absurd rfl nc)
        · rename_i elt gens scope lp
          simp only [compOk, Bool.and_eq_true, Bool.not_eq_true'] at h3
          obtain ⟨⟨c1, c2⟩, c3⟩ := h3
          have lc : X.env.scope.names.lookup x = some .local := by rw [ok.sc]; exact lcl_of c1
          cases e <;> try (simp only [chkE, nameB, Bool.false_eq_true] at h4; done)
          rename_i el tg it cond vs
          match gens, h4 with
          | [⟨t, i', ifs, 0⟩], h4 =>
            simp only [chkE, Bool.and_eq_true, decide_eq_true_eq] at h4
            obtain ⟨⟨⟨⟨⟨⟨k1, k2⟩, k3⟩, k4⟩, k5⟩, k6⟩, k7⟩ := h4
            have bk : BlkOk X.N X.env.scope scope (ownOf c vs) := by
              rw [ok.N, ok.sc]
              exact blkOk_by k2
            have := ps_setLc (pos := lp) (spos := pos) (py := px) ok.calm hN hi lc (sw_true ok.kind lc c2 c3) (piI it c W X t i' ok.toCtxOk k5) bk (fun s H C cl fp => tg_ok (g := g) (c := c) (sc := scope) (X := X.blk s H scope (compEnvC scope cl C X.env) fp) ok.K ok.N ok.nd ok.calm (fun y hy => blk_loc y hy) k4)
              (fun s H C cl fp => ptBo cond _ W0 (X.blk s H scope (compEnvC scope cl C X.env) fp) ifs (ok.toCtxOk.blk s H scope C cl fp) k6)
              (fun s H C cl fp => peE el _ W0 (X.blk s H scope (compEnvC scope cl C X.env) fp) elt (ok.toCtxOk.blk s H scope C cl fp) k7) (folded_ok (noSet_chkI k5))
            rw [k1] at this
            simp only [tS, tE]
            cases tg <;> exact this
        · simp [compOk] at h3
        · simp [compOk] at h3
  | .par i j a b, c, W, X, ast, ok, h => by
    cases ast <;> try (simp only [chkS, Bool.false_eq_true] at h; done)
    rename_i ts v pos
    match ts, v, h with
    | [.Tuple [.Name x px, .Name y py] kt pt], .Tuple [u, v] k2 pt2, h =>
      simp only [chkS, Bool.and_eq_true, decide_eq_true_eq] at h
      obtain ⟨⟨⟨⟨⟨⟨⟨⟨⟨⟨⟨h1, h2⟩, h3⟩, h4⟩, h5⟩, h6⟩, h7⟩, h8⟩, h9⟩, h10⟩, h11⟩, h12⟩ := h
      have lx : X.env.scope.names.lookup x = some .local := by rw [ok.sc]; exact lcl_of h5
      have ly : X.env.scope.names.lookup y = some .local := by rw [ok.sc]; exact lcl_of h6
      exact ps_par ok.calm (by rw [ok.N]; exact ok.nd) (by rw [ok.N]; exact h1) (by rw [ok.N]; exact h2) h3 lx ly
        (pa_cons (peE a c W X _ ok.toCtxOk h7) (pa_cons (peE b c W X _ ok.toCtxOk h8) pa_nil (star_cons (noStar_tail h9))) (star_cons h9)) (stores_par ok.kind lx ly h4 h10 h9 h11 h12) rfl
  | .unp is e, c, W, X, ast, ok, h => by
    cases ast <;> try (simp only [chkS, Bool.false_eq_true] at h; done)
    rename_i ts v pos
    match ts, h with
    | [.Tuple es k p], h =>
      simp only [chkS, Bool.and_eq_true] at h
      obtain ⟨⟨⟨h1, h2⟩, h3⟩, h4⟩ := h
      have pg := tg_ok (g := g) (tg := .tup is) (sc := c.sc) ok.K ok.N ok.nd ok.calm (loc_fn ok) h1
      exact ps_asg (peE e c W X v ok.toCtxOk h2) pg (sole_no h3) (stores_no h4)
  | .app p e, c, W, X, ast, ok, h => by
    cases ast <;> try (simp only [chkS, Bool.false_eq_true] at h; done)
    rename_i v pos
    cases v <;> try (simp only [chkS, Bool.false_eq_true] at h; done)
    rename_i fn args kws cp
    cases fn <;> try (simp only [chkS, Bool.false_eq_true] at h; done)
    rename_i o f ap
    match args, kws, h with
    | [y], [], h =>
      simp only [chkS, Bool.and_eq_true, decide_eq_true_eq] at h
      obtain ⟨⟨⟨⟨⟨rfl, h1⟩, h2⟩, h3⟩, h4⟩, h5⟩ := h
      have e1 : starEach [y] X.env = [(false, eval y X.env)] := star_cons h4
      have := pe_bm (cpos := cp) (apos := ap) PySem.F.plainAttrs_list PySem.F.slot_list_append PySem.F.type_list_append mt_append (peP p c W X o ok.toCtxOk h1) (pa_cons (peE e c W X y ok.toCtxOk h3) pa_nil e1) (abase h2)
        (by rw [e1]; rfl) h5 e1 rfl
      rw [ok.K] at this
      exact ps_expr this
  | .put p k e, c, W, X, ast, ok, h => by
    cases ast <;> try (simp only [chkS, Bool.false_eq_true] at h; done)
    rename_i ts v pos
    match ts, h with
    | [.Subscript o i sp], h =>
      simp only [chkS, Bool.and_eq_true] at h
      obtain ⟨⟨⟨⟨h1, h2⟩, h3⟩, h4⟩, h5⟩ := h
      exact ps_asg (peE e c W X v ok.toCtxOk h4) (pg_sub (peP p c W X o ok.toCtxOk h1) (peE k c W X i ok.toCtxOk h2) set_list (sub_at h3)) (sole_no h5) stores_sub
  | .drop e, c, W, X, ast, ok, h => by
    cases ast <;> try (simp only [chkS, Bool.false_eq_true] at h; done)
    simp only [chkS, Bool.and_eq_true] at h
    exact ps_expr (peE e c W X _ ok.toCtxOk h.1) (swaps_no h.2)
  | .ite t a b, c, W, X, ast, ok, h => by
    cases ast <;> try (simp only [chkS, Bool.false_eq_true] at h; done)
    simp only [chkS, Bool.and_eq_true] at h
    exact ps_if (ptB t c W X _ ok.toCtxOk h.1.1) (pssS a c W X _ ok h.1.2) (pssS b c W X _ ok h.2)
  | .whl t b, c, W, X, ast, ok, h => by
    cases ast <;> try (simp only [chkS, Bool.false_eq_true] at h; done)
    rename_i x y z pos
    match z, h with
    | [], h =>
      simp only [chkS, Bool.and_eq_true] at h
      exact ps_while ok.pass (ptB t c W X _ ok.toCtxOk h.1) (pssS b c W X _ ok h.2)
  | .for tg it b, c, W, X, ast, ok, h => by
    cases ast <;> try (simp only [chkS, Bool.false_eq_true] at h; done)
    rename_i t i y z pos
    match z, h with
    | [], h =>
      simp only [chkS, Bool.and_eq_true] at h
      have := ps_for (pos := pos) ok.pass ok.calm (piI it c W X t i ok.toCtxOk h.1.2) (tg_ok (g := g) (tg := tg) (sc := c.sc) ok.K ok.N ok.nd ok.calm (loc_fn ok) h.1.1) (pssS b c W X _ ok h.2) (folded_ok (noSet_chkI h.1.2))
      cases tg <;> exact this
  | .ret e, c, W, X, ast, ok, h => by
    cases ast <;> try (simp only [chkS, Bool.false_eq_true] at h; done)
    rename_i v pos
    cases v with
    | none => simp [chkS] at h
    | some v => exact ps_ret (peE e c W X v ok.toCtxOk (by simpa only [chkS] using h))
  | .retV i, c, W, X, ast, ok, h => by
    cases ast <;> try (simp only [chkS, Bool.false_eq_true] at h; done)
    rename_i v pos
    cases v with
    | none => simp [chkS] at h
    | some v => exact ps_ret (peE (.var i) c W X v ok.toCtxOk (by simpa only [chkS, chkE] using h))
  | .retN, c, W, X, ast, ok, h => by
    cases ast <;> try (simp only [chkS, Bool.false_eq_true] at h; done)
    rename_i v pos
    cases v with
    | none => exact ps_retN
    | some v => simp [chkS] at h
  | .brk, c, W, X, ast, ok, h => by
    cases ast <;> try (simp only [chkS, Bool.false_eq_true] at h; done)
    exact ps_break
  | .cnt, c, W, X, ast, ok, h => by
    cases ast <;> try (simp only [chkS, Bool.false_eq_true] at h; done)
    exact ps_continue
  | .pass, c, W, X, ast, ok, h => by
    cases ast <;> try (simp only [chkS, Bool.false_eq_true] at h; done)
    · rename_i v pos
      cases v <;> try (simp only [chkS, Bool.false_eq_true] at h; done)
      rename_i k a b
      cases k <;> try (simp only [chkS, Bool.false_eq_true] at h; done)
      exact ps_doc
    · exact ps_pass
  | .nev, c, W, X, ast, ok, h => ps_never
  | .rai k e, c, W, X, ast, ok, h => by
    cases ast <;> try (simp only [chkS, Bool.false_eq_true] at h; done)
    rename_i ex cause pos
    match ex, cause, h with
    | some (.Call (.Name x p) [y] [] p2), none, h =>
      simp only [chkS, Bool.and_eq_true, decide_eq_true_eq] at h
      obtain ⟨⟨⟨⟨h1, h2⟩, h3⟩, h4⟩, h5⟩ := h
      obtain ⟨k1, k2, k3, k4, k5⟩ := ok.ex k x h1
      have n := ndb_of h3
      exact ps_raise ok.calm ok.tk (pmk_ownA PySem.F.excBase_ValueError k2 k1 k3 (raises_own k4 k5) (gl_of (by rw [ok.sc]; exact h2)) (pa_cons (peE e c W X y ok.toCtxOk h4) pa_nil (star_cons h5)) n.1 (star_cons h5) rfl)
  | .raiP k e, c, W, X, ast, ok, h => by
    cases ast <;> try (simp only [chkS, Bool.false_eq_true] at h; done)
    rename_i ex cause pos
    match ex, cause, h with
    | some (.Call (.Name x p) [y] [] p2), none, h =>
      simp only [chkS, Bool.and_eq_true, decide_eq_true_eq] at h
      obtain ⟨⟨⟨⟨h1, h2⟩, h3⟩, h4⟩, h5⟩ := h
      obtain ⟨k1, k2, fI, fd, ps, lv, k3, k4, k5, k6, k7⟩ := ok.exi k x h1
      have n := ndb_of h3
      exact ps_raise ok.calm ok.tk (pmk_oex (dvs := []) k2 k3 k4 k5 k6 k7 .nil passL (gl_of (by rw [ok.sc]; exact h2)) k1 (pa_cons (peE e c W X y ok.toCtxOk h4) pa_nil (star_cons h5)) n.1 (star_cons h5) rfl)
theorem pssS : ∀ (s : Ss) (c : Ck) (W : WX) (X : Cx) (asts : List PySem.Stmt), StOk g pg c W X → chkSs c s asts = true → PSs X asts (tSs g pg W s)
  | .nil, c, W, X, asts, ok, h => by
    cases asts with
    | nil => exact pss_nil
    | cons a as => simp [chkSs] at h
  | .cons s r, c, W, X, asts, ok, h => by
    cases asts with
    | nil => simp [chkSs] at h
    | cons a as =>
      simp only [chkSs, Bool.and_eq_true] at h
      exact pss_cons (psS s c W X a ok h.1) (pssS r c W X as ok h.2)
  | .share i r, c, W, X, asts, ok, h => pssS r c W X asts ok (by simpa only [chkSs] using h)
end
end TL

namespace TL
open PySem PySem.Spec L2
variable {g : Gc} {W : WX}

/-! ### defs -/
structure Df where
  N : List Str
  ar : Nat
  body : Ss
structure PgD where
  cst : Nat → Option D
  dfs : Nat → Option Df
def PgD.ars (P : PgD) (k : Nat) : Nat := match P.dfs k with
  | some d => d.ar
  | none => 0
def ouM : Ou → M O
  | .ret o => .ok o
  | .nx _ => .ok (.sh .non)
  | .rai c p _ => .rai c p
  | _ => .stuck
def enOf (n : Nat) (ds : List D) : En := ds.map (fun d => some (O.sh d)) ++ List.replicate (n - ds.length) none
noncomputable def callN (P : PgD) : Nat → Nat → List D → M O
  | 0, _, _ => .stuck
  | n + 1, k, ds => match P.dfs k with
    | some d => if ds.length = d.ar then ouM (evSs ⟨P.cst, P.ars, callN P n⟩ d.body (enOf d.N.length ds)) else .stuck
    | none => .stuck
noncomputable def pgN (P : PgD) (n : Nat) : Pg := ⟨P.cst, P.ars, callN P n⟩
theorem callN_eq {P : PgD} {n k : Nat} {d : Df} (h : P.dfs k = some d) {ds : List D} (l : ds.length = d.ar) : callN P (n + 1) k ds = ouM (evSs (pgN P n) d.body (enOf d.N.length ds)) := by
  show (match P.dfs k with
    | some d => if ds.length = d.ar then ouM (evSs ⟨P.cst, P.ars, callN P n⟩ d.body (enOf d.N.length ds)) else .stuck
    | none => .stuck) = _
  rw [h]
  show (if ds.length = d.ar then _ else _) = _
  rw [if_pos l]
  rfl
theorem slots_none {S H : Hp} : ∀ n : Nat, Slots g S H (List.replicate n none) (List.replicate n none) []
  | 0 => ⟨rfl, rfl⟩
  | n + 1 => ⟨none, _, rfl, slots_none n⟩
theorem slots_start {S H : Hp} (m : Nat) : ∀ (ds : List D) (vs : List V), Reps g S ds vs → Slots g S H (ds.map (fun d => some (O.sh d)) ++ List.replicate m none) (vs.map some ++ List.replicate m none) []
  | [], vs, h => by
    simp only [Reps] at h
    subst h
    exact slots_none m
  | d :: ds, vs, h => by
    simp only [Reps] at h
    obtain ⟨v, r, rfl, h1, h2⟩ := h
    refine ⟨v, _, [], [], rfl, rfl, ?_, slots_start m ds r h2⟩
    simp only [ORep]
    exact ⟨trivial, h1⟩
/-- an __init__(self, at) of the text: self.at = at -/
def initAt : List PySem.Stmt → Bool
  | [.Assign [.Attribute (.Name a _) f _] (.Name b _) _] => decide (a = ("self" : Str)) && decide (f = ("at" : Str)) && decide (b = ("at" : Str))
  | _ => false
theorem initAt_of {body : List PySem.Stmt} (h : initAt body = true) : ∃ p1 p2 p3 p4 : Pos, body = [.Assign [.Attribute (.Name "self" p1) "at" p2] (.Name "at" p3) p4] := by
  unfold initAt at h
  split at h
  · simp only [Bool.and_eq_true, decide_eq_true_eq] at h
    obtain ⟨⟨rfl, rfl⟩, rfl⟩ := h
    exact ⟨_, _, _, _, rfl⟩
  · cases h
theorem init_ok {Pr : Program} {w : World} {K : PySem.W.Frag} {mg : Str → Option Value} {base : Heap} {x qual : Str} {params : Arguments} {body : List PySem.Stmt} {scope : Scope} {fI C : Addr} {fd : FuncData} (F : FunD K x qual params body scope [] [] fI fd) (S : FnScope ["self", "at"] ["self", "at"] scope) (hb : initAt body = true) (O : OexC K C) (hno : PySem.W.findIn K (.ref C) "at" = some none) :
    FnOk Pr w K mg base (L2.CX Pr w) 1 fI fd ["self", "at"] (spAt C) := by
  refine F.ok S (fun vs H Q E h => ?_) (fun cdv A outer s H vs Q E hr h => ?_)
  · obtain ⟨a, v, rfl, _⟩ := h
    rfl
  · obtain ⟨p1, p2, p3, p4, rfl⟩ := initAt_of hb
    have v0 : Vis scope "self" := by
      rcases S.par "self" (by simp) with k | k
      · exact .inl k
      · exact .inr (.inl k)
    have v1 : Vis scope "at" := by
      rcases S.par "at" (by simp) with k | k
      · exact .inl k
      · exact .inr (.inl k)
    refine ⟨tOst K "at" (tVar 0) (tVar 1), pss_one (ps_ost (pv 0 rfl v0) (pv 1 rfl v1)), ?_⟩
    obtain ⟨a, v, rfl, ha, h⟩ := h
    exact ⟨v, rfl, .ref a, rfl, a, C, rfl, O, hno, .inl ⟨ha, fun dx h1 h2 => h dx h1 h2⟩⟩
/-- what the module gives, and its defs -/
structure Tab (g : Gc) (mg : Str → Option Value) (ck : Ck) (P : PgD) : Prop where
  fr : ∀ x ∈ ck.fr, mg x = none
  bf : ∀ x id, (x, id) ∈ ck.bf → mg x = some (.builtin id)
  cst : ∀ (k : Nat) (x : Str), ck.cst.lookup k = some x → ∃ u, mg x = some u ∧ RelV (g.cv k) u
  fld : ∀ (cl k : Nat) (f : Str), (ck.fld[cl]?.bind fun l => l[k]?) = some f → (g.flds cl)[k]? = some f
  gok : ∀ n, GOk g (pgN P n)
  ex : ∀ (k : Nat) (x : Str), ck.ex.lookup k = some x → mg x = some (.ref (g.cls k)) ∧ PySem.W.excIn g.K (g.cls k) [.type "ValueError", .type "Exception", .type "BaseException", .type "object"] "ValueError.__new__" = true ∧ PySem.W.keepIn g.K (.ref (g.cls k)) = true ∧
    PySem.W.subIn g.K (.ref (g.cls k)) (.type "BaseException") = some true ∧ PySem.W.typeIn g.K (.ref (g.cls k)) = some (.type "type")
  exi : ∀ (k : Nat) (x : Str), ck.exi.lookup k = some x → mg x = some (.ref (g.cls k)) ∧ OexC g.K (g.cls k) ∧ PySem.W.findIn g.K (.ref (g.cls k)) "at" = some none ∧ ∃ (qual : Str) (fI : Addr) (fd : FuncData) (params : Arguments) (body : List PySem.Stmt) (scope : Scope), PySem.W.findIn g.K (.ref (g.cls k)) "__init__" = some (some (.ref fI)) ∧ PySem.W.typeIn g.K (.ref fI) = some (.type "function") ∧
    FunD g.K "__init__" qual params body scope [] [] fI fd ∧ FnScope ["self", "at"] ["self", "at"] scope ∧ initAt body = true ∧ ∀ (s : Shared) (us : List Value), us.length = 2 → BindsTo s fd ⟨us, []⟩ ((["self", "at"] : List Str).zip us)
  row : ∀ (k : Nat) (x : Str), ck.fn.lookup k = some x → ∃ (d : Df) (fa : Addr) (fd : FuncData) (params : Arguments) (body : List PySem.Stmt) (scope : Scope), P.dfs k = some d ∧ FunD g.K x x params body scope [] [] fa fd ∧ mg x = some (.ref fa) ∧ FnScope d.N (d.N.take d.ar) scope ∧ d.ar ≤ d.N.length ∧
    (∀ (s : Shared) (us : List Value), us.length = (d.N.take d.ar).length → BindsTo s fd ⟨us, []⟩ ((d.N.take d.ar).zip us)) ∧ chkSs { ck with N := d.N, sc := scope } d.body body = true
theorem spG_len {n : Nat} {G : List D → M O} {vs : List V} {H : Hp} {Q : VK} {E : XK} (h : spG g n G vs H Q E) : vs.length = n := by
  obtain ⟨Z, ds, h1, _, h2, _⟩ := h
  rw [Reps.len h2, h1]
theorem tab_fn {Pr : Program} {w : World} {mg : Str → Option Value} {base : Heap} {ck : Ck} {P : PgD} (T : Tab g mg ck P) : ∀ (n k : Nat) (x : Str) (d : Df) (fa : Addr) (fd : FuncData) (params : Arguments) (body : List PySem.Stmt) (scope : Scope), P.dfs k = some d → FunD g.K x x params body scope [] [] fa fd → FnScope d.N (d.N.take d.ar) scope →
    d.ar ≤ d.N.length → chkSs { ck with N := d.N, sc := scope } d.body body = true → FnOk Pr w g.K mg base (L2.CX Pr w) (n + 3) fa fd (d.N.take d.ar) (spG g d.ar (callN P n k))
  | 0, k, x, d, fa, fd, params, body, scope, hd, F, S, hl, hc => by
    refine ⟨fun vs H Q E h => ?_, fun A outer s H args us vs Q E hr he hb hv hs => ?_⟩
    · rw [spG_len h, List.length_take]
      omega
    · obtain ⟨_, _, _, _, _, z⟩ := hs
      exact z.elim
  | n + 1, k, x, d, fa, fd, params, body, scope, hd, F, S, hl, hc => by
    refine F.ok S (fun vs H Q E h => ?_) (fun cdv A outer s H vs Q E hr h => ?_)
    · rw [spG_len h, List.length_take]
      omega
    · have lv := spG_len h
      obtain ⟨Z, ds, h1, h2, h3, h4⟩ := h
      have ok : StOk g (pgN P n) { ck with N := d.N, sc := scope } (fun cls d _ H => E cls d H) (cxOf (L2.CX Pr w) Pr w g.K mg base d.N x scope fa cdv A outer s H E) :=
        { K := rfl, N := rfl, nd := S.nd, sc := rfl, calm := rfl, hu := by have := hr.un; show (A.deeper (PyProof.Rows.envOfC x scope s.heap.objs.size fa cdv)).units + 65 < cLine; omega
          fr := T.fr, bf := T.bf, cst := T.cst
          fn := fun k x hx => by
            obtain ⟨d', fa', fd', params', body', scope', e1, e2, e3, e4, e5, e6, e7⟩ := T.row k x hx
            have ih := tab_fn (Pr := Pr) (w := w) (base := base) T n k x d' fa' fd' params' body' scope' e1 e2 e4 e5 e7
            have ea : (pgN P n).ar k = d'.ar := by
              show P.ars k = _
              unfold PgD.ars
              rw [e1]
            refine ⟨fa', fd', d'.N.take d'.ar, n + 3, e3, ?_, hr, e2.kp, fun s us _ hl => by rw [List.append_nil] at hl ⊢; exact e6 s us hl⟩
            rw [ea]
            exact ih
          fld := T.fld, px := fun σ => passAt (takes_of rfl rfl rfl rfl) σ
          pass := passes_of rfl, kind := S.kind, fnT := fun _ => rfl, tk := takes_of rfl rfl rfl rfl
          ex := T.ex
          exi := fun k x hx => by
            obtain ⟨e1, e2, e3, qual', fI, fd', params', body', scope', e4, e5, e6, e7, e8, e9⟩ := T.exi k x hx
            exact ⟨e1, e2, fI, fd', ["self", "at"], 1, e4, e5, init_ok e6 e7 e8 e2 e3, hr.mono (by omega), fun s us _ hl => by rw [List.append_nil] at hl ⊢; exact e9 s us hl⟩ }
      refine ⟨tSs g (pgN P n) _ d.body, pssS d.body _ _ _ body ok hc, ?_⟩
      have st : StB g H Z [] (enOf d.N.length ds) (L2.start d.N vs) H := by
        refine ⟨⟨List.nodup_nil, fun _ z => (nomatch z), h2, ?_⟩, Same.refl _, fun _ z => (nomatch z)⟩
        have e : L2.start d.N vs = vs.map some ++ List.replicate (d.N.length - ds.length) none := by
          unfold L2.start
          rw [lv, h1]
        rw [e]
        exact slots_start _ ds vs (Reps.mono (hid_mono (Same.refl _) fun a u e z => by
          rcases z with z | z
          · cases z
          · exact z) _ _ h3)
      refine sndSs (T.gok n) d.body _ _ _ H Z H [] _ st ?_
      rw [callN_eq hd h1] at h4
      cases eo : evSs (pgN P n) d.body (enOf d.N.length ds) with
      | stuck => rw [eo] at h4; exact h4.elim
      | brk ρ => rw [eo] at h4; exact h4.elim
      | cnt ρ => rw [eo] at h4; exact h4.elim
      | nx ρ =>
        rw [eo] at h4
        exact fun σ' H' F' s' => h4 .non H' [] s'.same List.nodup_nil (fun _ z => (nomatch z)) (by simp only [ORep, Rep]; exact ⟨trivial, trivial⟩)
      | ret o =>
        rw [eo] at h4
        exact fun v H' ⟨f, r1, r2, r3, r4⟩ => h4 v H' f r1 r2 r3 r4
      | rai c p ρ =>
        rw [eo] at h4
        exact fun dd σ' H' F' s' x => h4 dd H' s'.same x
/-- the law's def, by its function -/
theorem law_fn {Pr : Program} {w : World} {mg : Str → Option Value} {ck : Ck} {P : PgD} (T : Tab g mg ck P) {n k : Nat} {x p : Str} (hx : ck.fn.lookup k = some x) (hp : (P.dfs k).map (fun d => d.N.take d.ar) = some [p]) {fa : Addr} (hm : mg x = some (.ref fa)) (hlaw : ∀ ns : List Int, ns.length ≤ 63 → callN P n k [.scr ns] = .ok (.sh (.bl true))) :
    ∃ (fd : FuncData) (sp : Sp), (∀ (s : Shared) (u : Value), BindsTo s fd ⟨[u], []⟩ [(p, u)]) ∧ (∀ (H : Hp) (a : Addr) (ns : List Int), ns.length ≤ 63 → Only H → SqL g.K H a (ns.map V.int) → sp [.ref a] H (fun v _ => v = .bl true) fun _ _ _ => False) ∧
      ∀ base : Heap, FnOk Pr w g.K mg base (L2.CX Pr w) (n + 3) fa fd [p] sp := by
  obtain ⟨d, fa', fd, params, body, scope, e1, e2, e3, e4, e5, e6, e7⟩ := T.row k x hx
  rw [hm] at e3
  cases e3
  rw [e1] at hp
  have hp : d.N.take d.ar = [p] := Option.some.inj hp
  have har : d.ar = 1 := by
    have := congrArg List.length hp
    rw [List.length_take] at this
    simp at this
    omega
  refine ⟨fd, spG g d.ar (callN P n k), fun s u => by have := e6 s [u] (by rw [hp]; rfl); rw [hp] at this; exact this, fun H a ns hl hO hS => ?_, fun base => ?_⟩
  · refine ⟨fun _ => False, [.scr ns], by rw [har]; rfl, fun _ z => z.elim, ?_, ?_⟩
    · simp only [Reps, Rep]
      refine ⟨.ref a, [], rfl, ⟨a, rfl, SqL_mono hS fun b u e => hid_some.mpr (And.intro (fun z => z) e)⟩, rfl⟩
    · rw [hlaw ns hl]
      intro v H' f _ _ _ h
      simp only [ORep, Rep] at h
      exact h.2
  · rw [← hp]
    exact tab_fn T n k x d fa fd params body scope e1 e2 e4 e5 e7
end TL

namespace TL
open PySem PySem.Spec L2

/-! ### computing with the evaluator -/
theorem onM_ok {α : Type} (a : α) (ρ : En) (k : α → Ou) : onM (.ok a) ρ k = k a := rfl
theorem onM_rai {α : Type} (c : Nat) (p : Option Int) (ρ : En) (k : α → Ou) : onM (.rai c p) ρ k = .rai c p ρ := rfl
theorem seqO_nx (ρ : En) (k : En → Ou) : seqO (.nx ρ) k = k ρ := rfl
theorem seqO_ret (o : O) (k : En → Ou) : seqO (.ret o) k = .ret o := rfl
theorem seqO_brk (ρ : En) (k : En → Ou) : seqO (.brk ρ) k = .brk ρ := rfl
theorem seqO_cnt (ρ : En) (k : En → Ou) : seqO (.cnt ρ) k = .cnt ρ := rfl
theorem seqO_rai (c : Nat) (p : Option Int) (ρ : En) (k : En → Ou) : seqO (.rai c p ρ) k = .rai c p ρ := rfl
theorem ouM_ret (o : O) : ouM (.ret o) = .ok o := rfl
theorem ouM_nx (ρ : En) : ouM (.nx ρ) = .ok (.sh .non) := rfl
theorem ouOf_some (ρ : En) : ouOf (some ρ) = .nx ρ := rfl
theorem prim1_ok (p : D → Option PV) (r : R) {pv : PV} (h : p r.d = some pv) : prim1 p (.ok r) = .ok (mkPV r.clean pv) := by
  show (match p r.d with | some pv => M.ok (mkPV r.clean pv) | none => .stuck) = _
  rw [h]
theorem prim2_ok (p : D → D → Option PV) (r q : R) {pv : PV} (h : p r.d q.d = some pv) : prim2 p (.ok r) (.ok q) = .ok (mkPV (r.clean && q.clean) pv) := by
  show (match p r.d q.d with | some pv => M.ok (mkPV (r.clean && q.clean) pv) | none => .stuck) = _
  rw [h]
theorem primN_ok (p : List D → Option PV) (rs : List R) {pv : PV} (h : p (rds rs) = some pv) : primN p (.ok rs) = .ok (mkPV (cleans rs) pv) := by
  show (match p (rds rs) with | some pv => M.ok (mkPV (cleans rs) pv) | none => .stuck) = _
  rw [h]
theorem mkPV_sc (c : Bool) (d : D) : mkPV c (.sc d) = .val true d := rfl
theorem mkPV_new (ds : List D) : mkPV true (.new ds) = .own (.lst (ds.map .sh)) := rfl
theorem prim1_eq (p : D → Option PV) (r : R) : prim1 p (.ok r) = match p r.d with
  | some pv => .ok (mkPV r.clean pv)
  | none => .stuck := rfl
theorem prim2_eq (p : D → D → Option PV) (r q : R) : prim2 p (.ok r) (.ok q) = match p r.d q.d with
  | some pv => .ok (mkPV (r.clean && q.clean) pv)
  | none => .stuck := rfl
theorem primN_eq (p : List D → Option PV) (rs : List R) : primN p (.ok rs) = match p (rds rs) with
  | some pv => .ok (mkPV (cleans rs) pv)
  | none => .stuck := rfl
theorem setR_val {i : Nat} {keep : Bool} {d : D} {ρ : En} (h : i < ρ.length) : setR i keep (.val true d) ρ = .nx (ρ.set i (some (.sh d))) := by
  unfold setR
  rw [if_pos h]
  cases keep <;> rfl
theorem setR_own {i : Nat} {o : O} {ρ : En} (h : i < ρ.length) : setR i true (.own o) ρ = .nx (ρ.set i (some o)) := by
  unfold setR
  rw [if_pos h]
  rfl
theorem setR_sh {i : Nat} {o : O} {ρ : En} (h : i < ρ.length) : setR i false (.own o) ρ = .nx (ρ.set i (some (.sh o.d))) := by
  unfold setR
  rw [if_pos h]
  rfl
theorem mkOwn_sh (d : D) : mkOwn (.sh d) = .val true d := rfl
theorem callR_true (o : O) : callR true o = mkOwn o := rfl
theorem evCall_ok {n : Nat} {G : List D → M O} {rs : List R} {o : O} (l : rs.length = n) (h : G (rds rs) = .ok o) : evCall n G (.ok rs) = .ok (callR (cleans rs) o) := by
  unfold evCall
  rw [M.bind_ok, if_pos l, h, M.bind_ok]
theorem pgN_ar {P : PgD} {n k : Nat} {d : Df} (h : P.dfs k = some d) : (pgN P n).ar k = d.ar := by
  show P.ars k = _
  unfold PgD.ars
  rw [h]
theorem pgN_call {P : PgD} {n k : Nat} : (pgN P n).call k = callN P n k := rfl
theorem pgN_cst {P : PgD} {n k : Nat} : (pgN P n).cst k = P.cst k := rfl
theorem bindD_name {i : Nat} {d : D} {ρ : En} (h : i < ρ.length) : bindD (.name i) d ρ = some (ρ.set i (some (.sh d))) := by
  show (if i < ρ.length then setDs [] [] _ else none) = _
  rw [if_pos h]
  rfl
theorem forR_true (bind : D → En → Option En) (b : En → Ou) (ds : List D) (ρ : En) : forR bind b (.ok (true, ds)) ρ = forL bind b ds ρ := rfl
theorem boolV_val (c k : Bool) : boolV (.val c (.bl k)) = .ok k := rfl
theorem truM_val (c k : Bool) : truM (.ok (.val c (.bl k))) = .ok k := rfl
/-- for over a list, by an invariant -/
theorem forL_inv {bind : D → En → Option En} {b : En → Ou} (I : Nat → En → Prop) : ∀ (ds : List D) (k : Nat) (ρ : En), I k ρ → (∀ i d ρ, ds[i]? = some d → I (k + i) ρ → ∃ ρ1 ρ', bind d ρ = some ρ1 ∧ (b ρ1 = .nx ρ' ∨ b ρ1 = .cnt ρ') ∧ I (k + i + 1) ρ') → ∃ ρ', forL bind b ds ρ = .nx ρ' ∧ I (k + ds.length) ρ'
  | [], k, ρ, h, st => ⟨ρ, rfl, h⟩
  | d :: ds, k, ρ, h, st => by
    obtain ⟨ρ1, ρ', e1, e2, h'⟩ := st 0 d ρ rfl h
    obtain ⟨ρ2, e3, h2⟩ := forL_inv I ds (k + 1) ρ' h' fun i d ρ e hI => by
      have := st (i + 1) d ρ (by simpa using e) (by rw [show k + (i + 1) = k + 1 + i by omega]; exact hI)
      rw [show k + (i + 1) + 1 = k + 1 + i + 1 by omega] at this
      exact this
    refine ⟨ρ2, ?_, by rw [List.length_cons, show k + (ds.length + 1) = k + 1 + ds.length by omega]; exact h2⟩
    unfold forL
    rw [e1]
    show (match b ρ1 with | .nx ρ' => _ | .cnt ρ' => _ | .brk ρ' => _ | o => o) = _
    rcases e2 with e2 | e2 <;> (rw [e2]; exact e3)
end TL

namespace TL
open PySem PySem.Spec PyProof.Rows L2
/-! ### the head's facts, with a Bool more -/
abbrev AlE : Type := He.AlD × Bool
def obsE (n : Nat) (fa : List He.Fa) (fn : List He.DefD) (ex : PySem.W.Frag → Bool) (g : Addr → Option Obj) : AlE := (He.obsD fa fn (He.frG g (He.asD g n)), ex (He.frG g (He.asD g n)))
def hookE (n : Nat) (fa : List He.Fa) (fn : List He.DefD) (ex : PySem.W.Frag → Bool) : PySem.W.Hook where
  α := AlE
  obs := fun s => obsE n fa fn ex s.heap.get?
  val := fun _ => (He.valD fn, true)
  says := fun _ h => ∃ K : PySem.W.Frag, K.In h ∧ He.SaysD fa fn K ∧ ex K = true
  of := fun _ _ e => ⟨_, He.frG_in, congrArg (fun z : AlE => z.1) e, congrArg (fun z : AlE => z.2) e⟩
  keeps := fun _ _ _ ⟨K, hK, c⟩ k => ⟨K, PySem.W.Frag.In.keeps hK k, c⟩
theorem obsE_eq {n : Nat} {fa : List He.Fa} {fn : List He.DefD} {ex : PySem.W.Frag → Bool} {g : Addr → Option Obj} {s : Shared} (h : ∀ a, g a = s.heap.get? a) : obsE n fa fn ex g = (hookE n fa fn ex).obs s := by
  have e : g = s.heap.get? := funext h
  rw [e] <;> rfl
/-- a class of errors with an __init__ of its own -/
def oexB (K : PySem.W.Frag) (C : Addr) : Bool := match K.lookup C with
  | some ⟨.type "type", _, .cls cd, sl⟩ => (match cd.mro, sl.toList with
    | .ref C' :: bm, [_, _, _, _, some (.builtin n), _] => C' == C && n == "ValueError.__new__" && !cd.hasDel && cd.hasDict && PySem.HandSPX.refsVE bm
    | _, _ => false)
  | _ => false
theorem oex_cls {K : PySem.W.Frag} {C : Addr} (q : oexB K C = true) : ∃ nm q N bs bm sn sub ab col dd k0 k1 k2 k3 k5, K.lookup C = some (excClassObj nm q C N bs bm true sn sub ab col dd k0 k1 k2 k3 k5 "ValueError.__new__") ∧ PySem.HandSPX.refsVE bm = true := by
  unfold oexB at q
  split at q
  · rename_i dd cd sl ho
    split at q
    · rename_i C' bm k0 k1 k2 k3 n k5 hm hs
      simp only [Bool.and_eq_true, beq_iff_eq, Bool.not_eq_true'] at q
      obtain ⟨⟨⟨⟨rfl, rfl⟩, hdel⟩, hd0⟩, ht⟩ := q
      obtain ⟨nm, bs, mro, ns, qn, hd, sn, sub, ab, col, del⟩ := cd
      dsimp only at hm hdel hd0
      subst hm hdel hd0
      have hsl : sl = #[k0, k1, k2, k3, some (.builtin "ValueError.__new__"), k5] := by
        obtain ⟨l⟩ := sl
        simp only at hs
        rw [hs]
      subst hsl
      exact ⟨nm, qn, ns, bs, bm, sn, sub, ab, col, dd, k0, k1, k2, k3, k5, ho, ht⟩
    · cases q
  · cases q
def oexF (K : PySem.W.Frag) (x : Str) : Bool := oexB K (He.ga K x) && He.eqO (PySem.W.findIn K (.ref (He.ga K x)) "__setattr__") (some (some (.builtin "object.__setattr__"))) && decide (PySem.W.subIn K (.ref (He.ga K x)) (.type "BaseException") = some true) && decide (PySem.W.typeIn K (.ref (He.ga K x)) = some (.type "type")) &&
  PySem.W.keepIn K (.ref (He.ga K x)) && He.eqO (PySem.W.findIn K (.ref (He.ga K x)) "at") (some none) && He.eqO (PySem.W.findIn K (.ref (He.ga K x)) "__init__") (some (some (.ref (He.ma K (He.ga K x) "__init__")))) && decide (PySem.W.typeIn K (.ref (He.ma K (He.ga K x) "__init__")) = some (.type "function"))
theorem oexF_ok {K : PySem.W.Frag} {x : Str} (h : oexF K x = true) : OexC K (He.ga K x) ∧ PySem.W.findIn K (.ref (He.ga K x)) "at" = some none ∧ PySem.W.findIn K (.ref (He.ga K x)) "__init__" = some (some (.ref (He.ma K (He.ga K x) "__init__"))) ∧ PySem.W.typeIn K (.ref (He.ma K (He.ga K x) "__init__")) = some (.type "function") := by
  unfold oexF at h
  simp only [Bool.and_eq_true, decide_eq_true_eq] at h
  obtain ⟨⟨⟨⟨⟨⟨⟨h1, h2⟩, h3⟩, h4⟩, h5⟩, h6⟩, h7⟩, h8⟩ := h
  exact ⟨⟨oex_cls h1, He.eqO_ok h2, h3, h4, h5⟩, He.eqO_ok h6, He.eqO_ok h7, h8⟩
theorem walk_ofW {l : PySem.W.OpenLaw} {n k : Nat} {q : Program} {loose : List Str} {XP : (Str → Option Value) → Heap → Prop} {YP : World → Heap → Prop} {d : DefRec} {x : Str}
    (hn : l.most = some n) (hn2 : n ≤ sizeLine) (hdf : d.params.defaults = []) (hr : Room k callerA)
    (F : ∀ (w : World) (mg : Str → Option Value) (fa : Addr) (h : Heap), YP w h → h.Ns mainGlobals mg → mg d.name = some (.ref fa) →
      ∃ (K : PySem.W.Frag) (fd : FuncData) (sp : Sp), K.In h ∧ (∀ (s : Shared) (u : Value), BindsTo s fd ⟨[u], []⟩ [(x, u)]) ∧
        (∀ (H : Hp) (a : Addr) (ns : List Int), ns.length ≤ n → Only H → SqL K H a (ns.map V.int) → sp [.ref a] H (fun v _ => v = .bl true) fun _ _ _ => False) ∧
        ∀ base : Heap, FnOk l.prog w K mg base (L2.CX l.prog w) k fa fd [x] sp) :
    PySem.W.WalkO q loose XP YP l.row.toRowW d [] (fun f vs => PySem.call f vs) := by
  refine Att.attach_call hn hdf fun w s₀ s₁ mg mb fa o pm cd doc a vs ns G Y ho hd hcd hmg hobj hints hlen hg => ?_
  obtain ⟨K, fd, sp, KX, hb, hsp, hF⟩ := F w mg fa _ Y G.T.g hmg
  exact law_call KX G.T.g G.T.b G.T.builtins G.T.nolimit hg hobj hints (Nat.le_trans hlen hn2) hr (fun base _ _ => hF base) hb (fun H hO hS => hsp H a ns hlen hO hS) fun H e s' z => by
    obtain ⟨_, _, _, _, _, _, _, _, _, _, _, _, y⟩ := z
    exact y
end TL

namespace TL
open PySem PySem.Spec L2
def consM (m : M R) (n : M (List R)) : M (List R) := m >>= fun r => n >>= fun rs => .ok (r :: rs)
def tupM (m : M (List R)) : M R := m >>= fun rs => if rs.length ≤ sizeLine then .ok (mkTup rs) else .stuck
def lstM (m : M (List R)) : M R := m >>= fun rs => if rs.length ≤ sizeLine then .ok (mkLst rs) else .stuck
def setM (i : Nat) (keep : Bool) (m : M R) (ρ : En) : Ou := onM m ρ fun r => setR i keep r ρ
def parM (i j : Nat) (m : M (List R)) (ρ : En) : Ou := onM m ρ fun rs => ouOf (parR i j rs ρ)
def unpM (is : List Nat) (m : M R) (ρ : En) : Ou := onM m ρ fun r => ouOf (unpR is r ρ)
def appM (m : M Pl) (n : M R) (ρ : En) : Ou := onM m ρ fun q => if q.isL = true then onM n ρ fun r => appR ρ q r else .stuck
def putM (n : M R) (m : M Pl) (k : M R) (ρ : En) : Ou := onM n ρ fun r => onM m ρ fun q => onM k ρ fun i => putR ρ r q i
def dropM (m : M R) (ρ : En) : Ou := onM m ρ fun _ => .nx ρ
def retM (m : M R) (ρ : En) : Ou := onM m ρ fun r => .ret (retR r)
noncomputable def iteM (pg : Pg) (m : M Bool) (a b : Ss) (ρ : En) : Ou := onM m ρ fun x => if x = true then evSs pg a ρ else evSs pg b ρ
noncomputable def seqM (pg : Pg) (o : Ou) (r : Ss) : Ou := seqO o fun ρ => evSs pg r ρ
noncomputable def forM (pg : Pg) (tg : Tg) (b : Ss) (m : M (Bool × List D)) (ρ : En) : Ou := forR (bindD tg) (fun ρ => evSs pg b ρ) m ρ
noncomputable def loopF (pg : Pg) (tg : Tg) (b : Ss) (ds : List D) (ρ : En) : Ou := forL (bindD tg) (fun ρ => evSs pg b ρ) ds ρ
@[simp] theorem consM_ok (r : R) (rs : List R) : consM (.ok r) (.ok rs) = .ok (r :: rs) := rfl
@[simp] theorem tupM_ok (rs : List R) (h : rs.length ≤ sizeLine) : tupM (.ok rs) = .ok (mkTup rs) := by
  show (if _ then _ else _) = _
  rw [if_pos h]
@[simp] theorem lstM_ok (rs : List R) (h : rs.length ≤ sizeLine) : lstM (.ok rs) = .ok (mkLst rs) := by
  show (if _ then _ else _) = _
  rw [if_pos h]
@[simp] theorem setM_ok (i : Nat) (keep : Bool) (r : R) (ρ : En) : setM i keep (.ok r) ρ = setR i keep r ρ := rfl
@[simp] theorem setM_rai (i : Nat) (keep : Bool) (c : Nat) (p : Option Int) (ρ : En) : setM i keep (.rai c p) ρ = .rai c p ρ := rfl
@[simp] theorem parM_ok (i j : Nat) (rs : List R) (ρ : En) : parM i j (.ok rs) ρ = ouOf (parR i j rs ρ) := rfl
@[simp] theorem unpM_ok (is : List Nat) (r : R) (ρ : En) : unpM is (.ok r) ρ = ouOf (unpR is r ρ) := rfl
@[simp] theorem appM_ok (q : Pl) (r : R) (ρ : En) (h : q.isL = true) : appM (.ok q) (.ok r) ρ = appR ρ q r := by
  show (if _ then _ else _) = _
  rw [if_pos h]
  rfl
@[simp] theorem putM_ok (r : R) (q : Pl) (i : R) (ρ : En) : putM (.ok r) (.ok q) (.ok i) ρ = putR ρ r q i := rfl
@[simp] theorem dropM_ok (r : R) (ρ : En) : dropM (.ok r) ρ = .nx ρ := rfl
@[simp] theorem retM_ok (r : R) (ρ : En) : retM (.ok r) ρ = .ret (retR r) := rfl
@[simp] theorem iteM_t (pg : Pg) (a b : Ss) (ρ : En) : iteM pg (.ok true) a b ρ = evSs pg a ρ := rfl
@[simp] theorem iteM_f (pg : Pg) (a b : Ss) (ρ : En) : iteM pg (.ok false) a b ρ = evSs pg b ρ := rfl
@[simp] theorem seqM_nx (pg : Pg) (ρ : En) (r : Ss) : seqM pg (.nx ρ) r = evSs pg r ρ := rfl
@[simp] theorem seqM_ret (pg : Pg) (o : O) (r : Ss) : seqM pg (.ret o) r = .ret o := rfl
@[simp] theorem seqM_brk (pg : Pg) (ρ : En) (r : Ss) : seqM pg (.brk ρ) r = .brk ρ := rfl
@[simp] theorem seqM_cnt (pg : Pg) (ρ : En) (r : Ss) : seqM pg (.cnt ρ) r = .cnt ρ := rfl
@[simp] theorem seqM_rai (pg : Pg) (c : Nat) (p : Option Int) (ρ : En) (r : Ss) : seqM pg (.rai c p ρ) r = .rai c p ρ := rfl
@[simp] theorem forM_t (pg : Pg) (tg : Tg) (b : Ss) (ds : List D) (ρ : En) : forM pg tg b (.ok (true, ds)) ρ = loopF pg tg b ds ρ := rfl
@[simp] theorem evVar_sh (d : D) (ρ : En) : evVar (some (.sh d) :: ρ) 0 = .ok (.val true d) := rfl
@[simp] theorem evVar_lst (os : List O) (ρ : En) : evVar (some (.lst os) :: ρ) 0 = .ok (.bor (.lst os)) := rfl
@[simp] theorem evVar_tup (os : List O) (ρ : En) : evVar (some (.tup os) :: ρ) 0 = .ok (.bor (.tup os)) := rfl
@[simp] theorem evVar_s (x : Option O) (ρ : En) (i : Nat) : evVar (x :: ρ) (i + 1) = evVar ρ i := by
  unfold evVar
  rw [List.getElem?_cons_succ]
@[simp] theorem retV_z (o : O) (ρ : En) : retV (some o :: ρ) 0 = .ret o := rfl
@[simp] theorem retV_s (x : Option O) (ρ : En) (i : Nat) : retV (x :: ρ) (i + 1) = retV ρ i := by
  unfold retV
  rw [List.getElem?_cons_succ]
@[simp] theorem shO_z (o : O) (ρ : En) : shO (some o :: ρ) 0 = some (.sh o.d) :: ρ := rfl
@[simp] theorem shO_n (ρ : En) : shO (none :: ρ) 0 = none :: ρ := rfl
@[simp] theorem shO_s (x : Option O) (ρ : En) (i : Nat) : shO (x :: ρ) (i + 1) = x :: shO ρ i := by
  unfold shO
  rw [List.getElem?_cons_succ]
  cases ρ[i]? with
  | none => rfl
  | some x => cases x <;> rfl
@[simp] theorem bindD_z (d : D) (x : Option O) (ρ : En) : bindD (.name 0) d (x :: ρ) = some (some (.sh d) :: ρ) := by
  show (if 0 < (x :: ρ).length then setDs [] [] _ else none) = _
  rw [if_pos (by simp)]
  rfl
section
variable (pg : Pg) (ρ : En)
/-! ### the evaluator's steps, for simp -/
@[simp] theorem evE_var (i : Nat) : evE pg (.var i) ρ = evVar ρ i := rfl
@[simp] theorem evE_int (i : Int) : evE pg (.int i) ρ = .ok (.val true (.int i)) := rfl
@[simp] theorem evE_bl (i : Bool) : evE pg (.bl i) ρ = .ok (.val true (.bl i)) := rfl
@[simp] theorem evE_non : evE pg .non ρ = .ok (.val true .non) := rfl
@[simp] theorem evE_str (x : Str) : evE pg (.str x) ρ = .ok (.val true (.str x)) := rfl
@[simp] theorem evE_bin (op : Operator) (a b : E) : evE pg (.bin op a b) ρ = prim2 (pBin op) (evE pg a ρ) (evE pg b ρ) := rfl
@[simp] theorem evE_neg (a : E) : evE pg (.neg a) ρ = prim1 (fun d => match d with | .int i => some (.sc (.int (-i))) | _ => none) (evE pg a ρ) := rfl
@[simp] theorem evE_cmp (op : CmpOp) (a b : E) : evE pg (.cmp op a b) ρ = prim2 (pCmp op) (evE pg a ρ) (evE pg b ρ) := rfl
@[simp] theorem evE_chain (o1 o2 : CmpOp) (a b c : E) : evE pg (.chain o1 o2 a b c) ρ = chainV (pCmp o1) (pCmp o2) (evE pg a ρ) (evE pg b ρ) (evE pg c ρ) := rfl
@[simp] theorem evE_and (a : E) (r : Es) : evE pg (.and a r) ρ = evAnd pg (evE pg a ρ) r ρ := rfl
@[simp] theorem evE_or (a : E) (r : Es) : evE pg (.or a r) ρ = evOr pg (evE pg a ρ) r ρ := rfl
@[simp] theorem evE_not (a : E) : evE pg (.not a) ρ = notV (evE pg a ρ) := rfl
@[simp] theorem evE_ite (c : B) (a b : E) : evE pg (.ite c a b) ρ = iteV (evB pg c ρ) (evE pg a ρ) (evE pg b ρ) := rfl
@[simp] theorem evE_tup (es : Es) : evE pg (.tup es) ρ = tupM (evEs pg es ρ) := rfl
@[simp] theorem evE_lst (es : Es) : evE pg (.lst es) ρ = lstM (evEs pg es ρ) := rfl
@[simp] theorem evE_idx (a b : E) : evE pg (.idx a b) ρ = evIdx (evE pg a ρ) (evE pg b ρ) := rfl
@[simp] theorem evE_blt (b : Blt) (e : E) (es : Es) : evE pg (.blt b e es) ρ = primN (pBlt b) (consM (evE pg e ρ) (evEs pg es ρ)) := rfl
@[simp] theorem evE_isT (t : String) (a : E) : evE pg (.isT t a) ρ = evIsT t (evE pg a ρ) := rfl
@[simp] theorem evE_call (f : Nat) (e : E) (es : Es) : evE pg (.call f e es) ρ = evCall (pg.ar f) (pg.call f) (consM (evE pg e ρ) (evEs pg es ρ)) := rfl
@[simp] theorem evE_fld (c k : Nat) (a : E) : evE pg (.fld c k a) ρ = evFld c k (evE pg a ρ) := rfl
@[simp] theorem evE_m1 (m : Mth) (a b : E) : evE pg (.m1 m a b) ρ = evM1 (pMth m) (evE pg a ρ) (evE pg b ρ) := rfl
@[simp] theorem evE_bits (a : E) : evE pg (.bits a) ρ = prim1 pBits (evE pg a ρ) := rfl
@[simp] theorem evEs_nil : evEs pg .nil ρ = .ok [] := rfl
@[simp] theorem evEs_cons (e : E) (es : Es) : evEs pg (.cons e es) ρ = consM (evE pg e ρ) (evEs pg es ρ) := rfl
@[simp] theorem evAnd_nil (m : M R) : evAnd pg m .nil ρ = m := rfl
@[simp] theorem evAnd_cons (m : M R) (e : E) (es : Es) : evAnd pg m (.cons e es) ρ = andV m (evAnd pg (evE pg e ρ) es ρ) := rfl
@[simp] theorem evOr_nil (m : M R) : evOr pg m .nil ρ = m := rfl
@[simp] theorem evOr_cons (m : M R) (e : E) (es : Es) : evOr pg m (.cons e es) ρ = orV m (evOr pg (evE pg e ρ) es ρ) := rfl
@[simp] theorem evI_seq (e : E) : evI pg (.seq e) ρ = evItems (evE pg e ρ) := rfl
@[simp] theorem evI_rng1 (e : E) : evI pg (.rng1 e) ρ = evRng1 (consM (evE pg e ρ) (.ok [])) := rfl
@[simp] theorem evI_rng2 (a b : E) : evI pg (.rng2 a b) ρ = evRng2 (consM (evE pg a ρ) (consM (evE pg b ρ) (.ok []))) := rfl
@[simp] theorem evB_cmp (op : CmpOp) (a b : E) : evB pg (.cmp op a b) ρ = prim2 (pCmp op) (evE pg a ρ) (evE pg b ρ) >>= boolV := rfl
@[simp] theorem evB_chain (o1 o2 : CmpOp) (a b c : E) : evB pg (.chain o1 o2 a b c) ρ = chainV (pCmp o1) (pCmp o2) (evE pg a ρ) (evE pg b ρ) (evE pg c ρ) >>= boolV := rfl
@[simp] theorem evB_and (a : B) (r : Bs) : evB pg (.and a r) ρ = evAndT pg (evB pg a ρ) r ρ := rfl
@[simp] theorem evB_or (a : B) (r : Bs) : evB pg (.or a r) ρ = evOrT pg (evB pg a ρ) r ρ := rfl
@[simp] theorem evB_not (a : B) : evB pg (.not a) ρ = notT (evB pg a ρ) := rfl
@[simp] theorem evB_val (e : E) : evB pg (.val e) ρ = truM (evE pg e ρ) := rfl
@[simp] theorem evAndT_nil (m : M Bool) : evAndT pg m .nil ρ = m := rfl
@[simp] theorem evAndT_cons (m : M Bool) (b : B) (bs : Bs) : evAndT pg m (.cons b bs) ρ = andT m (evAndT pg (evB pg b ρ) bs ρ) := rfl
@[simp] theorem evOrT_nil (m : M Bool) : evOrT pg m .nil ρ = m := rfl
@[simp] theorem evOrT_cons (m : M Bool) (b : B) (bs : Bs) : evOrT pg m (.cons b bs) ρ = orT m (evOrT pg (evB pg b ρ) bs ρ) := rfl
@[simp] theorem evS_set (i : Nat) (e : E) (k : Bool) : evS pg (.set i e k) ρ = setM i k (evE pg e ρ) ρ := by simp only [evS, setM]
@[simp] theorem evS_par (i j : Nat) (a b : E) : evS pg (.par i j a b) ρ = parM i j (consM (evE pg a ρ) (consM (evE pg b ρ) (.ok []))) ρ := by simp only [evS, parM]; rfl
@[simp] theorem evS_unp (is : List Nat) (e : E) : evS pg (.unp is e) ρ = unpM is (evE pg e ρ) ρ := by simp only [evS, unpM]
@[simp] theorem evS_app (p : Pa) (e : E) : evS pg (.app p e) ρ = appM (evP pg p ρ) (evE pg e ρ) ρ := by simp only [evS, appM]
@[simp] theorem evS_put (p : Pa) (k e : E) : evS pg (.put p k e) ρ = putM (evE pg e ρ) (evP pg p ρ) (evE pg k ρ) ρ := by simp only [evS, putM]
@[simp] theorem evS_drop (e : E) : evS pg (.drop e) ρ = dropM (evE pg e ρ) ρ := by simp only [evS, dropM]
@[simp] theorem evS_ite (c : B) (a b : Ss) : evS pg (.ite c a b) ρ = iteM pg (evB pg c ρ) a b ρ := by simp only [evS, iteM]
theorem evS_whl (c : B) (b : Ss) : evS pg (.whl c b) ρ = whlW (fun ρ => evB pg c ρ) (fun ρ => evSs pg b ρ) ρ := by simp only [evS]
@[simp] theorem evS_for (tg : Tg) (it : I) (b : Ss) : evS pg (.for tg it b) ρ = forM pg tg b (evI pg it ρ) ρ := by simp only [evS, forM]
@[simp] theorem evS_ret (e : E) : evS pg (.ret e) ρ = retM (evE pg e ρ) ρ := by simp only [evS, retM]
@[simp] theorem evS_retV (i : Nat) : evS pg (.retV i) ρ = retV ρ i := by simp only [evS]
@[simp] theorem evS_retN : evS pg .retN ρ = .ret (.sh .non) := by simp only [evS]
@[simp] theorem evS_brk : evS pg .brk ρ = .brk ρ := by simp only [evS]
@[simp] theorem evS_cnt : evS pg .cnt ρ = .cnt ρ := by simp only [evS]
theorem evS_nev : evS pg .nev ρ = .stuck := by simp only [evS]
@[simp] theorem evS_pass : evS pg .pass ρ = .nx ρ := by simp only [evS]
@[simp] theorem evSs_nil : evSs pg .nil ρ = .nx ρ := by simp only [evSs]
@[simp] theorem evSs_cons (s : S) (r : Ss) : evSs pg (.cons s r) ρ = seqM pg (evS pg s ρ) r := by simp only [evSs, seqM]
@[simp] theorem evSs_share (i : Nat) (r : Ss) : evSs pg (.share i r) ρ = evSs pg r (shO ρ i) := by simp only [evSs]
end
end TL
namespace TL
open PySem PySem.Spec L2
section
variable {c c' : Bool} {i j : Int} {ρ : En}
@[simp] theorem onM_ok' {α : Type} (a : α) (ρ : En) (k : α → Ou) : onM (.ok a) ρ k = k a := rfl
@[simp] theorem seqO_nx' (ρ : En) (k : En → Ou) : seqO (.nx ρ) k = k ρ := rfl
@[simp] theorem seqO_ret' (o : O) (k : En → Ou) : seqO (.ret o) k = .ret o := rfl
@[simp] theorem seqO_brk' (ρ : En) (k : En → Ou) : seqO (.brk ρ) k = .brk ρ := rfl
@[simp] theorem seqO_cnt' (ρ : En) (k : En → Ou) : seqO (.cnt ρ) k = .cnt ρ := rfl
@[simp] theorem seqO_rai' (c : Nat) (p : Option Int) (ρ : En) (k : En → Ou) : seqO (.rai c p ρ) k = .rai c p ρ := rfl
@[simp] theorem ouM_ret' (o : O) : ouM (.ret o) = .ok o := rfl
@[simp] theorem ouM_nx' (ρ : En) : ouM (.nx ρ) = .ok (.sh .non) := rfl
@[simp] theorem ouOf_some' (ρ : En) : ouOf (some ρ) = .nx ρ := rfl
@[simp] theorem R_d_val (d : D) : (R.val c d).d = d := rfl
@[simp] theorem R_d_own (o : O) : (R.own o).d = o.d := rfl
@[simp] theorem R_d_bor (o : O) : (R.bor o).d = o.d := rfl
@[simp] theorem R_clean_own (o : O) : (R.own o).clean = true := rfl
@[simp] theorem R_clean_true (d : D) : (R.val true d).clean = true := rfl
@[simp] theorem R_clean_int : (R.val c (.int i)).clean = true := by cases c <;> rfl
@[simp] theorem R_clean_bl : (R.val c (.bl c')).clean = true := by cases c <;> rfl
@[simp] theorem R_clean_bor (o : O) : (R.bor o).clean = o.d.flat := rfl
@[simp] theorem O_d_sh (d : D) : (O.sh d).d = d := rfl
@[simp] theorem O_d_lst (os : List O) : (O.lst os).d = .lst (ods os) := rfl
@[simp] theorem O_d_tup (os : List O) : (O.tup os).d = .tup (ods os) := rfl
theorem ods_map (os : List O) : ods os = os.map O.d := by
  induction os with
  | nil => rfl
  | cons o os ih => show o.d :: ods os = _; rw [ih]; rfl
@[simp] theorem ods_sh (ds : List D) : ods (ds.map .sh) = ds := by
  rw [ods_map, List.map_map]
  exact (List.map_congr_left (fun d _ => rfl)).trans (List.map_id ds)
@[simp] theorem cleans_nil : cleans [] = true := rfl
@[simp] theorem cleans_cons (r : R) (rs : List R) : cleans (r :: rs) = (r.clean && cleans rs) := rfl
@[simp] theorem rds_nil : rds [] = [] := rfl
@[simp] theorem rds_cons (r : R) (rs : List R) : rds (r :: rs) = r.d :: rds rs := rfl
@[simp] theorem neg1 : prim1 (fun d => match d with | .int i => some (.sc (.int (-i))) | _ => none) (.ok (.val c (.int i))) = .ok (.val true (.int (-i))) := rfl
@[simp] theorem bits1 : prim1 pBits (.ok (.val c (.int i))) = .ok (.val true (.int ((Builtin.Int.intBits i : Nat) : Int))) := rfl
@[simp] theorem add2 : prim2 (pBin .Add) (.ok (.val c (.int i))) (.ok (.val c' (.int j))) = .ok (.val true (.int (i + j))) := rfl
@[simp] theorem sub2 : prim2 (pBin .Sub) (.ok (.val c (.int i))) (.ok (.val c' (.int j))) = .ok (.val true (.int (i - j))) := rfl
theorem mul_or (h : i.natAbs < 2 ^ 64 ∨ j.natAbs < 2 ^ 64) : mulOk i j = true := by
  unfold mulOk
  rcases h with h | h <;> simp only [decide_eq_true h, Bool.true_or, Bool.or_true]
theorem mul_small (h : i.natAbs.log2 + j.natAbs.log2 < 1000000) : mulOk i j = true := by
  unfold mulOk
  simp only [decide_eq_true h, Bool.or_true]
theorem div_of (h : 0 < j) (h2 : j.natAbs.log2 < 9000) : divOk i j = true := by
  unfold divOk
  simp only [decide_eq_true h, decide_eq_true h2, Bool.and_self]
@[simp] theorem mul2 (h : mulOk i j = true) : prim2 (pBin .Mult) (.ok (.val c (.int i))) (.ok (.val c' (.int j))) = .ok (.val true (.int (i * j))) := by
  show (match (if mulOk i j = true then some (PV.sc (.int (i * j))) else none) with | some pv => M.ok (mkPV _ pv) | none => .stuck) = _
  rw [if_pos h]
  rfl
@[simp] theorem div2 (h : divOk i j = true) : prim2 (pBin .FloorDiv) (.ok (.val c (.int i))) (.ok (.val c' (.int j))) = .ok (.val true (.int (i / j))) := by
  show (match (if divOk i j = true then some (PV.sc (.int (i / j))) else none) with | some pv => M.ok (mkPV _ pv) | none => .stuck) = _
  rw [if_pos h]
  rfl
@[simp] theorem mod2 (h : 0 < j) : prim2 (pBin .Mod) (.ok (.val c (.int i))) (.ok (.val c' (.int j))) = .ok (.val true (.int (i % j))) := by
  show (match (if 0 < j then some (PV.sc (.int (i % j))) else none) with | some pv => M.ok (mkPV _ pv) | none => .stuck) = _
  rw [if_pos h]
  rfl
theorem pow2 (h : powOk i j = true) : prim2 (pBin .Pow) (.ok (.val c (.int i))) (.ok (.val c' (.int j))) = .ok (.val true (.int (i ^ j.toNat))) := by
  show (match (if powOk i j = true then some (PV.sc (.int (i ^ j.toNat))) else none) with | some pv => M.ok (mkPV _ pv) | none => .stuck) = _
  rw [if_pos h]
  rfl
@[simp] theorem pow18 : prim2 (pBin .Pow) (.ok (.val c (.int 10))) (.ok (.val c' (.int 18))) = .ok (.val true (.int 1000000000000000000)) := by
  rw [pow2 (by decide)]
  have e : (10 : Int) ^ (18 : Int).toNat = 1000000000000000000 := by decide +kernel
  rw [e]
@[simp] theorem lt2 : prim2 (pCmp .Lt) (.ok (.val c (.int i))) (.ok (.val c' (.int j))) = .ok (.val true (.bl (decide (i < j)))) := rfl
@[simp] theorem le2 : prim2 (pCmp .LtE) (.ok (.val c (.int i))) (.ok (.val c' (.int j))) = .ok (.val true (.bl (decide (i ≤ j)))) := rfl
@[simp] theorem gt2 : prim2 (pCmp .Gt) (.ok (.val c (.int i))) (.ok (.val c' (.int j))) = .ok (.val true (.bl (decide (j < i)))) := rfl
@[simp] theorem ge2 : prim2 (pCmp .GtE) (.ok (.val c (.int i))) (.ok (.val c' (.int j))) = .ok (.val true (.bl (decide (j ≤ i)))) := rfl
@[simp] theorem eq2 : prim2 (pCmp .Eq) (.ok (.val c (.int i))) (.ok (.val c' (.int j))) = .ok (.val true (.bl (decide (i = j)))) := rfl
@[simp] theorem ne2 : prim2 (pCmp .NotEq) (.ok (.val c (.int i))) (.ok (.val c' (.int j))) = .ok (.val true (.bl (!decide (i = j)))) := rfl
@[simp] theorem boolV' {k : Bool} : boolV (.val c (.bl k)) = .ok k := rfl
@[simp] theorem truM' {k : Bool} : truM (.ok (.val c (.bl k))) = .ok k := rfl
@[simp] theorem andT_t (n : M Bool) : andT (.ok true) n = n := rfl
@[simp] theorem andT_f (n : M Bool) : andT (.ok false) n = .ok false := rfl
@[simp] theorem orT_t (n : M Bool) : orT (.ok true) n = .ok true := rfl
@[simp] theorem orT_f (n : M Bool) : orT (.ok false) n = n := rfl
@[simp] theorem notT' (k : Bool) : notT (.ok k) = .ok (!k) := rfl
@[simp] theorem iteV_t (m n : M R) : iteV (.ok true) m n = m := rfl
@[simp] theorem iteV_f (m n : M R) : iteV (.ok false) m n = n := rfl
@[simp] theorem andV_t (n : M R) : andV (.ok (.val c (.bl true))) n = n := rfl
@[simp] theorem andV_f (n : M R) : andV (.ok (.val c (.bl false))) n = .ok (.val true (.bl false)) := rfl
@[simp] theorem orV_t (n : M R) : orV (.ok (.val c (.bl true))) n = .ok (.val true (.bl true)) := rfl
@[simp] theorem orV_f (n : M R) : orV (.ok (.val c (.bl false))) n = n := rfl
@[simp] theorem notV' (k : Bool) : notV (.ok (.val c (.bl k))) = .ok (.val true (.bl (!k))) := rfl
@[simp] theorem intN : primN (pBlt .int) (.ok [.val c (.int i)]) = .ok (.val true (.int i)) := rfl
@[simp] theorem absN : primN (pBlt .abs) (.ok [.val c (.int i)]) = .ok (.val true (.int (if i < 0 then -i else i))) := rfl
@[simp] theorem maxN : primN (pBlt .max) (.ok [.val c (.int i), .val c' (.int j)]) = .ok (.val true (.int (if j > i then j else i))) := rfl
@[simp] theorem minN : primN (pBlt .min) (.ok [.val c (.int i), .val c' (.int j)]) = .ok (.val true (.int (if j < i then j else i))) := rfl
@[simp] theorem gcdN : primN (pBlt .gcd) (.ok [.val c (.int i), .val c' (.int j)]) = .ok (.val true (.int ((Nat.gcd i.natAbs j.natAbs : Nat) : Int))) := rfl
@[simp] theorem lenScr {ns : List Int} : primN (pBlt .len) (.ok [.val c (.scr ns)]) = .ok (.val true (.int ns.length)) := rfl
@[simp] theorem lenLst {ds : List D} : primN (pBlt .len) (.ok [.val c (.lst ds)]) = .ok (.val true (.int ds.length)) := rfl
@[simp] theorem lenTup {ds : List D} : primN (pBlt .len) (.ok [.val c (.tup ds)]) = .ok (.val true (.int ds.length)) := rfl
theorem ods_length (os : List O) : (ods os).length = os.length := by rw [ods_map, List.length_map]
@[simp] theorem lenBor {os : List O} : primN (pBlt .len) (.ok [.bor (.lst os)]) = .ok (.val true (.int os.length)) := by
  show M.ok (mkPV _ (.sc (.int ((ods os).length : Nat)))) = _
  rw [ods_length]
  rfl
@[simp] theorem isT_eq (t : String) (r : R) : evIsT t (.ok r) = match pIsT t r.d with
  | some b => .ok (.val true (.bl b))
  | none => .stuck := rfl
@[simp] theorem evIdx_eq (r : R) : evIdx (.ok r) (.ok (.val c (.int i))) = M.of (subR r i) := rfl
theorem setR_of_val {k : Nat} {keep : Bool} {d : D} (h : k < ρ.length) : setR k keep (.val true d) ρ = .nx (ρ.set k (some (.sh d))) := setR_val h
@[simp] theorem setR_int {k : Nat} {keep : Bool} : setR k keep (.val c (.int i)) ρ = if k < ρ.length then .nx (ρ.set k (some (.sh (.int i)))) else .stuck := by
  unfold setR
  cases c <;> cases keep <;> rfl
@[simp] theorem setR_tr {k : Nat} {keep : Bool} {d : D} : setR k keep (.val true d) ρ = if k < ρ.length then .nx (ρ.set k (some (.sh d))) else .stuck := by
  unfold setR
  cases keep <;> rfl
@[simp] theorem setR_ow {k : Nat} {o : O} : setR k true (.own o) ρ = if k < ρ.length then .nx (ρ.set k (some o)) else .stuck := by
  unfold setR
  rfl
@[simp] theorem setR_ow' {k : Nat} {o : O} : setR k false (.own o) ρ = if k < ρ.length then .nx (ρ.set k (some (.sh o.d))) else .stuck := by
  unfold setR
  rfl
@[simp] theorem retR_val {d : D} : retR (.val c d) = .sh d := rfl
@[simp] theorem retR_own {o : O} : retR (.own o) = o := rfl
@[simp] theorem retR_bor {o : O} : retR (.bor o) = .sh o.d := rfl
@[simp] theorem mkTup_nil : mkTup [] = .val true (.tup []) := rfl
@[simp] theorem mkLst_nil : mkLst [] = .own (.lst []) := rfl
@[simp] theorem R_o_true {d : D} : (R.val true d).o = some (.sh d) := by simp [R.o]
@[simp] theorem R_o_int : (R.val c (.int i)).o = some (.sh (.int i)) := by cases c <;> rfl
@[simp] theorem R_o_own {o : O} : (R.own o).o = some o := rfl
@[simp] theorem callR_int {i : Int} : callR c (.sh (.int i)) = .val true (.int i) := by cases c <;> rfl
@[simp] theorem callR_bl {k : Bool} : callR c (.sh (.bl k)) = .val true (.bl k) := by cases c <;> rfl
@[simp] theorem callR_sh {d : D} : callR true (.sh d) = .val true d := rfl
@[simp] theorem callR_lst {os : List O} : callR true (.lst os) = .own (.lst os) := rfl
@[simp] theorem callR_tup {os : List O} : callR true (.tup os) = .own (.tup os) := rfl
@[simp] theorem rng1_eq {j : Int} (h : rngOk j = true) : evRng1 (.ok [.val c (.int j)]) = .ok (true, rngD 0 j.toNat) := by
  show (if rngOk j = true then _ else _) = _
  rw [if_pos h]
@[simp] theorem rng2_eq {i j : Int} (h : rngOk i = true) (h2 : rngOk j = true) : evRng2 (.ok [.val c (.int i), .val c' (.int j)]) = .ok (true, rngD i (j - i).toNat) := by
  show (if (rngOk i && rngOk j) = true then _ else _) = _
  rw [if_pos (by rw [h, h2]; rfl)]
@[simp] theorem items_eq (r : R) : evItems (.ok r) = match itemsD r.d with
  | some ds => .ok (r.clean, ds)
  | none => .stuck := rfl
@[simp] theorem itemsD_lst (ds : List D) : itemsD (.lst ds) = some ds := rfl
@[simp] theorem itemsD_tup (ds : List D) : itemsD (.tup ds) = some ds := rfl
end
end TL
namespace TL
open PySem PySem.Spec L2
section
variable {ρ : En} {i : Nat} {os : List O}
theorem appM_gen {r : R} {x : O} (h : ρ[i]? = some (some (.lst os))) (hr : r.o = some x) (hl : os.length < sizeLine) : appM (.ok ⟨i, [], .lst os⟩) (.ok r) ρ = .nx (ρ.set i (some (.lst (os ++ [x])))) := by
  rw [appM_ok _ _ _ (by rfl)]
  unfold appR
  show (if _ then _ else _) = _
  rw [if_pos hl]
  unfold updR
  simp only [h, hr]
  rfl
@[simp] theorem appM_v {d : D} (h : ρ[i]? = some (some (.lst os))) (hl : os.length < sizeLine) : appM (.ok ⟨i, [], .lst os⟩) (.ok (.val true d)) ρ = .nx (ρ.set i (some (.lst (os ++ [.sh d])))) := appM_gen h R_o_true hl
@[simp] theorem appM_i {c : Bool} {j : Int} (h : ρ[i]? = some (some (.lst os))) (hl : os.length < sizeLine) : appM (.ok ⟨i, [], .lst os⟩) (.ok (.val c (.int j))) ρ = .nx (ρ.set i (some (.lst (os ++ [.sh (.int j)])))) := appM_gen h R_o_int hl
@[simp] theorem appM_o {o : O} (h : ρ[i]? = some (some (.lst os))) (hl : os.length < sizeLine) : appM (.ok ⟨i, [], .lst os⟩) (.ok (.own o)) ρ = .nx (ρ.set i (some (.lst (os ++ [o])))) := appM_gen h rfl hl
@[simp] theorem evP_z {pg : Pg} {o : O} {ρ : En} : evP pg (.var 0) (some o :: ρ) = .ok ⟨0, [], o⟩ := rfl
theorem evP_v {pg : Pg} {o : O} {ρ : En} {i : Nat} (h : ρ[i]? = some (some o)) : evP pg (.var i) ρ = .ok ⟨i, [], o⟩ := by
  unfold evP
  rw [h]
/-- lists of ints -/
def iDs (xs : List Int) : List D := xs.map fun i => .int i
def iOs (xs : List Int) : List O := xs.map fun i => .sh (.int i)
@[simp] theorem iOs_len (xs : List Int) : (iOs xs).length = xs.length := List.length_map _
@[simp] theorem iDs_len (xs : List Int) : (iDs xs).length = xs.length := List.length_map _
@[simp] theorem iOs_d (xs : List Int) : ods (iOs xs) = iDs xs := by
  rw [ods_map]
  unfold iOs iDs
  rw [List.map_map]
  rfl
@[simp] theorem iOs_snoc (xs : List Int) (x : Int) : iOs xs ++ [.sh (.int x)] = iOs (xs ++ [x]) := by
  unfold iOs
  rw [List.map_append]
  rfl
theorem iDs_get (xs : List Int) (j : Nat) : (iDs xs)[j]? = (xs[j]?).map fun i => D.int i := List.getElem?_map ..
theorem atI_ints {xs : List Int} {k : Nat} (h : k < xs.length) : atI (iDs xs) (k : Int) = some (.int xs[k]) := by
  unfold atI ixN
  rw [iDs_len]
  simp [h, iDs_get]
@[simp] theorem subR_ints {c : Bool} {xs : List Int} {k : Nat} (h : k < xs.length) : subR (.val c (.lst (iDs xs))) (k : Int) = some (.val (c || (D.lst (iDs xs)).flat) (.int xs[k])) := by
  show (atI (iDs xs) (k : Int)).map _ = _
  rw [atI_ints h]
  rfl
end
end TL

namespace TL
open PySem PySem.Spec L2
def df_ratio : Df := ⟨["p", "q", "common"], 2, (.cons (.ite (.cmp .Lt (.var 1) (.int 0)) (.cons (.set 0 (.neg (.var 0)) false) (.cons (.set 1 (.neg (.var 1)) false) .nil)) .nil) (.cons (.set 2 (.blt .gcd (.var 0) (.cons (.var 1) .nil)) false) (.cons (.ret (.tup (.cons (.bin .FloorDiv (.var 0) (.var 2)) (.cons (.bin .FloorDiv (.var 1) (.var 2)) .nil)))) .nil)))⟩
def df_format_ratio : Df := ⟨["a"], 1, (.cons (.ite (.cmp .Eq (.idx (.var 0) (.int 1)) (.int 1)) (.cons (.ret (.blt .str (.idx (.var 0) (.int 0)) .nil)) .nil) .nil) (.cons (.ret (.bin .Add (.bin .Add (.blt .str (.idx (.var 0) (.int 0)) .nil) (.str "/")) (.blt .str (.idx (.var 0) (.int 1)) .nil))) .nil))⟩
def df_is_number_b1 : Ss := (.cons (.ite (.cmp .NotIn (.var 1) (.glob 0)) (.cons (.ret (.bl false)) .nil) .nil) .nil)
def df_is_number : Df := ⟨["text", "char"], 1, (.cons (.ite (.not (.chain .LtE .LtE (.int 1) (.blt .len (.var 0) .nil) (.glob 1))) (.cons (.ret (.bl false)) .nil) .nil) (.cons (.for (.name 1) (.seq (.var 0)) df_is_number_b1) (.cons (.ret (.bl true)) .nil)))⟩
def df_parse_ratio : Df := ⟨["text", "parts", "top", "bottom", "digits", "p", "q", "result"], 1, (.cons (.set 1 (.m1 .split (.var 0) (.str "/")) false) (.cons (.ite (.cmp .Gt (.blt .len (.var 1) .nil) (.int 2)) (.cons (.raiP 1 (.int 0)) .nil) .nil) (.cons (.set 2 (.idx (.var 1) (.int 0)) false) (.cons (.set 3 (.str "1") false) (.cons (.ite (.cmp .Eq (.blt .len (.var 1) .nil) (.int 2)) (.cons (.set 3 (.idx (.var 1) (.int 1)) false) .nil) .nil) (.cons (.set 4 (.var 2) false) (.cons (.ite (.val (.m1 .starts (.var 2) (.str "-"))) (.cons (.set 4 (.slice (.var 2) (.some (.int 1)) .none) false) .nil) .nil) (.cons (.ite (.or (.not (.val (.call 20 (.var 4) .nil))) (.cons (.not (.val (.call 20 (.var 3) .nil))) .nil)) (.cons (.raiP 1 (.int 0)) .nil) .nil) (.cons (.set 5 (.blt .int (.var 4) .nil) false) (.cons (.set 6 (.blt .int (.var 3) .nil) false) (.cons (.ite (.cmp .Eq (.var 6) (.int 0)) (.cons (.raiP 1 (.int 0)) .nil) .nil) (.cons (.ite (.val (.m1 .starts (.var 2) (.str "-"))) (.cons (.set 5 (.neg (.var 5)) false) .nil) .nil) (.cons (.set 7 (.call 0 (.var 5) (.cons (.var 6) .nil)) false) (.cons (.ite (.cmp .NotEq (.call 19 (.var 7) .nil) (.var 0)) (.cons (.raiP 1 (.int 0)) .nil) .nil) (.cons (.retV 7) .nil)))))))))))))))⟩
def df__law_is_integer : Df := ⟨["_law_x"], 1, (.cons (.ret (.and (.isT "int" (.var 0)) (.cons (.not (.isT "bool" (.var 0))) .nil))) .nil)⟩
def df__law_row_b1 : Ss := (.cons (.ite (.cmp .Gt (.var 4) (.int 0)) (.cons (.app (.var 5) (.bin .Mod (.blt .int (.var 4) .nil) (.int 1000))) (.cons (.set 4 (.bin .FloorDiv (.var 4) (.int 1000)) false) .nil)) (.cons (.set 7 (.bin .Mod (.blt .int (.bin .Add (.bin .Add (.bin .Mult (.var 3) (.int 48271)) (.bin .Mult (.var 6) (.int 69621))) (.int 12345)) .nil) (.int 2147483647)) false) (.cons (.set 7 (.bin .Mod (.blt .int (.bin .Add (.bin .Add (.bin .Mult (.var 7) (.var 7)) (.bin .Mult (.var 7) (.int 16807))) (.bin .Mult (.var 6) (.int 40692))) .nil) (.int 2147483399)) false) (.cons (.app (.var 5) (.bin .Mod (.bin .FloorDiv (.var 7) (.int 64)) (.int 1000))) .nil)))) .nil)
def df__law_row : Df := ⟨["_law_script", "_law_place", "_law_many", "_law_cell", "_law_rest", "_law_row_here", "_law_k", "_law_mixed"], 3, (.cons (.set 3 (.bin .Add (.bin .Mult (.int 7919) (.var 1)) (.int 5)) false) (.cons (.ite (.cmp .Lt (.var 1) (.blt .len (.var 0) .nil)) (.cons (.set 3 (.idx (.var 0) (.var 1)) false) .nil) .nil) (.cons (.set 4 (.bin .Sub (.var 3) (.bin .Pow (.int 10) (.int 18))) false) (.cons (.set 5 (.lst .nil) true) (.cons (.for (.name 6) (.rng1 (.var 2)) df__law_row_b1) (.cons (.retV 5) .nil))))))⟩
def df__law_long_b1 : Ss := (.cons (.set 3 (.bin .Add (.bin .Mult (.var 3) (.int 1000)) (.idx (.var 0) (.bin .Add (.var 1) (.var 4)))) false) .nil)
def df__law_long : Df := ⟨["_law_row_here", "_law_start", "_law_many", "_law_number", "_law_k"], 3, (.cons (.set 3 (.int 0) false) (.cons (.for (.name 4) (.rng1 (.var 2)) df__law_long_b1) (.cons (.retV 3) .nil)))⟩
def df__law_gcd_b1 : Ss := (.cons (.ite (.cmp .Eq (.var 1) (.int 0)) (.cons (.retV 0) .nil) .nil) (.cons (.par 0 1 (.var 1) (.bin .Mod (.blt .int (.var 0) .nil) (.var 1))) .nil))
def df__law_gcd : Df := ⟨["_law_a", "_law_b", "_law_k"], 2, (.cons (.for (.name 2) (.rng1 (.bin .Add (.bin .Mult (.int 2) (.bits (.var 1))) (.int 2))) df__law_gcd_b1) (.cons (.retV 0) .nil))⟩
def df__law_lowest : Df := ⟨["_law_p", "_law_q", "_law_common"], 2, (.cons (.set 2 (.call 4 (.blt .abs (.var 0) .nil) (.cons (.var 1) .nil)) false) (.cons (.ret (.tup (.cons (.bin .FloorDiv (.var 0) (.var 2)) (.cons (.bin .FloorDiv (.var 1) (.var 2)) .nil)))) .nil))⟩
def df_law_k04 : Df := ⟨["_law_script", "_law_row_here", "_law_p", "_law_q", "_law_given", "_law_due", "_law_text", "_law_back"], 1, (.cons (.set 1 (.call 2 (.var 0) (.cons (.int 0) (.cons (.int 44) .nil))) false) (.cons (.set 2 (.call 3 (.var 1) (.cons (.int 4) (.cons (.bin .Add (.int 1) (.bin .Mod (.blt .int (.idx (.var 1) (.int 0)) .nil) (.int 20))) .nil))) false) (.cons (.set 3 (.blt .max (.int 1) (.cons (.call 3 (.var 1) (.cons (.int 24) (.cons (.bin .Add (.int 1) (.bin .Mod (.blt .int (.idx (.var 1) (.int 1)) .nil) (.int 20))) .nil))) .nil)) false) (.cons (.ite (.cmp .Eq (.bin .Mod (.blt .int (.idx (.var 1) (.int 2)) .nil) (.int 4)) (.int 1)) (.cons (.set 3 (.int 1) false) .nil) .nil) (.cons (.ite (.cmp .Eq (.bin .Mod (.blt .int (.idx (.var 1) (.int 2)) .nil) (.int 8)) (.int 6)) (.cons (.set 2 (.int 0) false) .nil) .nil) (.cons (.ite (.cmp .Eq (.bin .Mod (.blt .int (.idx (.var 1) (.int 3)) .nil) (.int 2)) (.int 1)) (.cons (.set 2 (.neg (.var 2)) false) .nil) .nil) (.cons (.set 4 (.call 12 (.var 2) (.cons (.var 3) .nil)) false) (.cons (.set 5 (.blt .str (.idx (.var 4) (.int 0)) .nil) false) (.cons (.ite (.cmp .NotEq (.idx (.var 4) (.int 1)) (.int 1)) (.cons (.set 5 (.bin .Add (.bin .Add (.var 5) (.str "/")) (.blt .str (.idx (.var 4) (.int 1)) .nil)) false) .nil) .nil) (.cons (.set 6 (.call 19 (.var 4) .nil) false) (.cons (.ite (.or (.not (.val (.isT "str" (.var 6)))) (.cons (.cmp .NotEq (.var 6) (.var 5)) .nil)) (.cons (.ret (.bl false)) .nil) .nil) (.cons (.set 7 (.call 21 (.var 5) .nil) false) (.cons (.ite (.or (.not (.val (.isT "tuple" (.var 7)))) (.cons (.cmp .NotEq (.blt .len (.var 7) .nil) (.int 2)) .nil)) (.cons (.ret (.bl false)) .nil) .nil) (.cons (.ite (.or (.not (.val (.call 1 (.idx (.var 7) (.int 0)) .nil))) (.cons (.not (.val (.call 1 (.idx (.var 7) (.int 1)) .nil))) .nil)) (.cons (.ret (.bl false)) .nil) .nil) (.cons (.ret (.cmp .Eq (.var 7) (.var 4))) .nil)))))))))))))))⟩
def df__law_is_fraction : Df := ⟨["_law_x"], 1, (.cons (.ite (.or (.not (.val (.isT "tuple" (.var 0)))) (.cons (.cmp .NotEq (.blt .len (.var 0) .nil) (.int 2)) .nil)) (.cons (.ret (.bl false)) .nil) .nil) (.cons (.ite (.or (.not (.val (.call 1 (.idx (.var 0) (.int 0)) .nil))) (.cons (.not (.val (.call 1 (.idx (.var 0) (.int 1)) .nil))) (.cons (.cmp .Lt (.idx (.var 0) (.int 1)) (.int 1)) .nil))) (.cons (.ret (.bl false)) .nil) .nil) (.cons (.ret (.cmp .Eq (.call 4 (.blt .abs (.idx (.var 0) (.int 0)) .nil) (.cons (.idx (.var 0) (.int 1)) .nil)) (.int 1))) .nil)))⟩
def df_add : Df := ⟨["a", "b"], 2, (.cons (.ret (.call 0 (.bin .Add (.bin .Mult (.idx (.var 0) (.int 0)) (.idx (.var 1) (.int 1))) (.bin .Mult (.idx (.var 1) (.int 0)) (.idx (.var 0) (.int 1)))) (.cons (.bin .Mult (.idx (.var 0) (.int 1)) (.idx (.var 1) (.int 1))) .nil))) .nil)⟩
def df_sub : Df := ⟨["a", "b"], 2, (.cons (.ret (.call 0 (.bin .Sub (.bin .Mult (.idx (.var 0) (.int 0)) (.idx (.var 1) (.int 1))) (.bin .Mult (.idx (.var 1) (.int 0)) (.idx (.var 0) (.int 1)))) (.cons (.bin .Mult (.idx (.var 0) (.int 1)) (.idx (.var 1) (.int 1))) .nil))) .nil)⟩
def df_mul : Df := ⟨["a", "b"], 2, (.cons (.ret (.call 0 (.bin .Mult (.idx (.var 0) (.int 0)) (.idx (.var 1) (.int 0))) (.cons (.bin .Mult (.idx (.var 0) (.int 1)) (.idx (.var 1) (.int 1))) .nil))) .nil)⟩
def df_div : Df := ⟨["a", "b"], 2, (.cons (.ret (.call 0 (.bin .Mult (.idx (.var 0) (.int 0)) (.idx (.var 1) (.int 1))) (.cons (.bin .Mult (.idx (.var 0) (.int 1)) (.idx (.var 1) (.int 0))) .nil))) .nil)⟩
def df_neg : Df := ⟨["a"], 1, (.cons (.ret (.tup (.cons (.neg (.idx (.var 0) (.int 0))) (.cons (.idx (.var 0) (.int 1)) .nil)))) .nil)⟩
def df__law_drawn : Df := ⟨["_law_row_here", "_law_p", "_law_q"], 1, (.cons (.set 1 (.call 3 (.var 0) (.cons (.int 2) (.cons (.bin .Add (.int 1) (.bin .Mod (.blt .int (.idx (.var 0) (.int 0)) .nil) (.int 10))) .nil))) false) (.cons (.set 2 (.blt .max (.int 1) (.cons (.call 3 (.var 0) (.cons (.int 12) (.cons (.bin .Add (.int 1) (.bin .Mod (.blt .int (.idx (.var 0) (.int 1)) .nil) (.int 10))) .nil))) .nil)) false) (.cons (.ite (.cmp .Lt (.bin .Mod (.blt .int (.bin .FloorDiv (.idx (.var 0) (.int 0)) (.int 10)) .nil) (.int 4)) (.int 2)) (.cons (.set 1 (.bin .Mod (.blt .int (.var 1) .nil) (.int 13)) false) (.cons (.set 2 (.bin .Add (.int 1) (.bin .Mod (.blt .int (.var 2) .nil) (.int 9))) false) .nil)) .nil) (.cons (.ite (.cmp .Eq (.bin .Mod (.blt .int (.bin .FloorDiv (.idx (.var 0) (.int 1)) (.int 10)) .nil) (.int 2)) (.int 1)) (.cons (.set 1 (.neg (.var 1)) false) .nil) .nil) (.cons (.ret (.call 12 (.var 1) (.cons (.var 2) .nil))) .nil)))))⟩
def df__law_equals : Df := ⟨["_law_actual", "_law_p", "_law_q"], 3, (.cons (.ret (.and (.call 5 (.var 0) .nil) (.cons (.cmp .Eq (.bin .Mult (.idx (.var 0) (.int 0)) (.var 2)) (.bin .Mult (.var 1) (.idx (.var 0) (.int 1)))) .nil))) .nil)⟩
def df_dot_b1 : Ss := (.cons (.set 2 (.call 7 (.var 2) (.cons (.call 9 (.idx (.var 0) (.var 3)) (.cons (.idx (.var 1) (.var 3)) .nil)) .nil)) false) .nil)
def df_dot : Df := ⟨["a", "b", "total", "k"], 2, (.cons (.set 2 (.glob 2) false) (.cons (.for (.name 3) (.rng1 (.blt .len (.var 0) .nil)) df_dot_b1) (.cons (.retV 2) .nil)))⟩
def df_scale : Df := ⟨["k", "a", "x"], 2, (.cons (.ret (.comp (.call 9 (.var 0) (.cons (.var 2) .nil)) (.name 2) (.seq (.var 1)) .none [2])) .nil)⟩
def df_add_scaled : Df := ⟨["a", "k", "b", "i"], 3, (.cons (.ret (.comp (.call 7 (.idx (.var 0) (.var 3)) (.cons (.call 9 (.var 1) (.cons (.idx (.var 2) (.var 3)) .nil)) .nil)) (.name 3) (.rng1 (.blt .len (.var 0) .nil)) .none [3])) .nil)⟩
end TL

namespace TL
open PySem PySem.Spec L2
theorem ev_is_integer {P : PgD} (h : P.dfs 1 = some df__law_is_integer) (n : Nat) (i : Int) : callN P (n + 1) 1 [.int i] = .ok (.sh (.bl true)) := by
  rw [callN_eq h rfl]
  rfl
/-! ratio -/
def lowP (p q : Int) : Int := if q < 0 then -p else p
def lowQ (q : Int) : Int := if q < 0 then -q else q
def low (p q : Int) : Int × Int := (lowP p q / (Nat.gcd p.natAbs q.natAbs : Nat), lowQ q / (Nat.gcd p.natAbs q.natAbs : Nat))
theorem ev_ratio {P : PgD} (h : P.dfs 0 = some df_ratio) (n : Nat) (p q : Int) (hq : q ≠ 0) (hz : (Nat.gcd p.natAbs q.natAbs).log2 < 9000) :
    callN P (n + 1) 0 [.int p, .int q] = .ok (.sh (.tup [.int (low p q).1, .int (low p q).2])) := by
  rw [callN_eq h rfl]
  have hg : 0 < Nat.gcd p.natAbs q.natAbs := Nat.gcd_pos_of_pos_right _ (by omega)
  have hd : ∀ i, divOk i ((Nat.gcd p.natAbs q.natAbs : Nat) : Int) = true := fun i => div_of (by omega) (by simpa using hz)
  by_cases hn : q < 0
  · have e : low p q = ((-p) / (Nat.gcd p.natAbs q.natAbs : Nat), (-q) / (Nat.gcd p.natAbs q.natAbs : Nat)) := by simp [low, lowP, lowQ, hn]
    rw [e]
    simp [df_ratio, enOf, hn, hd, mkTup, ros, shs, sizeLine_eq]
  · have e : low p q = (p / (Nat.gcd p.natAbs q.natAbs : Nat), q / (Nat.gcd p.natAbs q.natAbs : Nat)) := by simp [low, lowP, lowQ, hn]
    rw [e]
    simp [df_ratio, enOf, hn, hd, mkTup, ros, shs, sizeLine_eq]
end TL

namespace TL
open PySem PySem.Spec L2
abbrev sI (i : Int) : Option O := some (.sh (.int i))
theorem rng_get {lo : Int} {n i : Nat} {d : D} (h : (rngD lo n)[i]? = some d) : d = .int (lo + (i : Int)) ∧ i < n := by
  unfold rngD at h
  rw [List.getElem?_map] at h
  obtain ⟨c, e, rfl⟩ := Option.map_eq_some_iff.mp h
  obtain ⟨h1, h2⟩ := List.getElem?_eq_some_iff.mp e
  simp at h1 h2
  exact ⟨by rw [h2], h1⟩
theorem rng_len {lo : Int} {n : Nat} : (rngD lo n).length = n := by unfold rngD; simp
/-- the cells of a row: below 1000 -/
def Cells (xs : List Int) : Prop := ∀ x ∈ xs, 0 ≤ x ∧ x < 1000
def rowI (ns : List Int) (place many : Int) (k : Nat) (ρ : En) : Prop := ∃ (cell rest : Int) (xs : List Int) (a b : Option O), ρ = [some (.sh (.scr ns)), sI place, sI many, sI cell, sI rest, some (.lst (iOs xs)), a, b] ∧ xs.length = k ∧ Cells xs
theorem cells_snoc {xs : List Int} {x : Int} (h : Cells xs) (h0 : 0 ≤ x) (h1 : x < 1000) : Cells (xs ++ [x]) := fun y hy => by
  rcases List.mem_append.mp hy with hy | hy
  · exact h y hy
  · rw [List.mem_singleton.mp hy]; exact ⟨h0, h1⟩
theorem row_body (pg : Pg) (ns : List Int) (place many : Int) (k : Nat) (hk : k < 1000) (ρ : En) (hI : rowI ns place many k ρ) :
    ∃ ρ', evSs pg df__law_row_b1 (ρ.set 6 (sI (k : Int))) = .nx ρ' ∧ rowI ns place many (k + 1) ρ' := by
  obtain ⟨cell, rest, xs, a, b, rfl, hl, hc⟩ := hI
  have hz : xs.length < sizeLine := by rw [hl, sizeLine_eq]; omega
  have d1000 : ∀ i, divOk i 1000 = true := fun i => div_of (by decide) (by decide +kernel)
  have d64 : ∀ i, divOk i 64 = true := fun i => div_of (by decide) (by decide +kernel)
  have m1 : ∀ i, mulOk i 48271 = true := fun i => mul_or (.inr (by decide))
  have m2 : ∀ i, mulOk i 69621 = true := fun i => mul_or (.inr (by decide))
  have m3 : ∀ i, mulOk i 16807 = true := fun i => mul_or (.inr (by decide))
  have m4 : ∀ i, mulOk i 40692 = true := fun i => mul_or (.inr (by decide))
  have m5 : ∀ i : Int, mulOk (i % 2147483647) (i % 2147483647) = true := fun i => mul_or (.inr (by omega))
  by_cases hr : 0 < rest
  · refine ⟨[some (.sh (.scr ns)), sI place, sI many, sI cell, sI (rest / 1000), some (.lst (iOs (xs ++ [rest % 1000]))), sI k, b], ?_, cell, rest / 1000, xs ++ [rest % 1000], _, b, rfl, by simp [hl], cells_snoc hc (by omega) (by omega)⟩
    simp -implicitDefEqProofs [df__law_row_b1, hr, evP_v, hz, d1000]
  · refine ⟨[some (.sh (.scr ns)), sI place, sI many, sI cell, sI rest, some (.lst (iOs (xs ++ [((((cell * 48271 + k * 69621 + 12345) % 2147483647) * ((cell * 48271 + k * 69621 + 12345) % 2147483647) + ((cell * 48271 + k * 69621 + 12345) % 2147483647) * 16807 + k * 40692) % 2147483399) / 64 % 1000]))), sI k, sI ((((cell * 48271 + k * 69621 + 12345) % 2147483647) * ((cell * 48271 + k * 69621 + 12345) % 2147483647) + ((cell * 48271 + k * 69621 + 12345) % 2147483647) * 16807 + k * 40692) % 2147483399)], ?_, cell, rest, xs ++ [((((cell * 48271 + k * 69621 + 12345) % 2147483647) * ((cell * 48271 + k * 69621 + 12345) % 2147483647) + ((cell * 48271 + k * 69621 + 12345) % 2147483647) * 16807 + k * 40692) % 2147483399) / 64 % 1000], sI k, sI ((((cell * 48271 + k * 69621 + 12345) % 2147483647) * ((cell * 48271 + k * 69621 + 12345) % 2147483647) + ((cell * 48271 + k * 69621 + 12345) % 2147483647) * 16807 + k * 40692) % 2147483399), rfl, by simp [hl], cells_snoc hc (by omega) (by omega)⟩
    simp -implicitDefEqProofs [df__law_row_b1, hr, evP_v, hz, d64, m1, m2, m3, m4, m5]
theorem rng_ok {k : Nat} (h : k < 2 ^ 62) : rngOk (k : Int) = true := by
  unfold rngOk
  simp only [Bool.and_eq_true, decide_eq_true_eq]
  omega
theorem row_loop (pg : Pg) (ns : List Int) (place : Int) (many : Nat) (hm : many < 1000) (cell rest : Int) : ∃ ρ', loopF pg (.name 6) df__law_row_b1 (rngD 0 many) [some (.sh (.scr ns)), sI place, sI many, sI cell, sI rest, some (.lst []), none, none] = .nx ρ' ∧ rowI ns place many many ρ' := by
  obtain ⟨ρ', e1, e2⟩ := forL_inv (bind := bindD (.name 6)) (b := fun ρ => evSs pg df__law_row_b1 ρ) (rowI ns place many) (rngD 0 many) 0 _ ⟨cell, rest, [], none, none, rfl, rfl, fun _ z => (nomatch z)⟩ (fun i d ρ hd hI => by
    obtain ⟨rfl, hi⟩ := rng_get hd
    obtain ⟨ρ', b1, b2⟩ := row_body pg ns place many (0 + i) (by omega) ρ hI
    refine ⟨ρ.set 6 (some (.sh (.int (0 + (i : Int))))), ρ', bindD_name ?_, .inl ?_, b2⟩
    · obtain ⟨_, _, _, _, _, rfl, _⟩ := hI
      simp
    · simpa using b1)
  exact ⟨ρ', e1, by simpa [rng_len] using e2⟩
theorem ev_row {P : PgD} (h : P.dfs 2 = some df__law_row) (n : Nat) (ns : List Int) (place : Nat) (many : Nat) (hm : many < 1000) :
    ∃ xs : List Int, xs.length = many ∧ Cells xs ∧ callN P (n + 1) 2 [.scr ns, .int place, .int many] = .ok (.lst (iOs xs)) := by
  rw [callN_eq h rfl]
  have rm : rngOk (many : Int) = true := rng_ok (by omega)
  have m0 : ∀ i, mulOk 7919 i = true := fun i => mul_or (.inl (by decide))
  by_cases hpl : place < ns.length
  · have eix : subD true (.scr ns) (place : Int) = some (.val true (.int ns[place])) := by
      simp [subD, atI, ixN, hpl]
    obtain ⟨ρ', e1, cell, rest, xs, a, b, e2, e3, e4⟩ := row_loop (pgN P n) ns place many hm ns[place] (ns[place] - 1000000000000000000)
    refine ⟨xs, e3, e4, ?_⟩
    subst e2
    simp -implicitDefEqProofs [df__law_row, enOf, hpl, m0, subR, eix, rm, ros, mkLst, sizeLine_eq, e1]
  · obtain ⟨ρ', e1, cell, rest, xs, a, b, e2, e3, e4⟩ := row_loop (pgN P n) ns place many hm (7919 * place + 5) (7919 * place + 5 - 1000000000000000000)
    refine ⟨xs, e3, e4, ?_⟩
    subst e2
    simp -implicitDefEqProofs [df__law_row, enOf, hpl, m0, subR, rm, ros, mkLst, sizeLine_eq, e1]
end TL

namespace TL
open PySem PySem.Spec L2
/-! loops, step by step -/
theorem loopF_nil {pg : Pg} {tg : Tg} {b : Ss} {ρ : En} : loopF pg tg b [] ρ = .nx ρ := rfl
theorem loopF_nx {pg : Pg} {tg : Tg} {b : Ss} {d : D} {ds : List D} {ρ ρ1 ρ' : En} (h1 : bindD tg d ρ = some ρ1) (h2 : evSs pg b ρ1 = .nx ρ') : loopF pg tg b (d :: ds) ρ = loopF pg tg b ds ρ' := by
  unfold loopF
  show (match bindD tg d ρ with | none => Ou.stuck | some ρ1 => match evSs pg b ρ1 with | .nx ρ' => _ | .cnt ρ' => _ | .brk ρ' => Ou.nx ρ' | o => o) = _
  rw [h1]
  show (match evSs pg b ρ1 with | .nx ρ' => _ | .cnt ρ' => _ | .brk ρ' => Ou.nx ρ' | o => o) = _
  rw [h2]
theorem loopF_cnt {pg : Pg} {tg : Tg} {b : Ss} {d : D} {ds : List D} {ρ ρ1 ρ' : En} (h1 : bindD tg d ρ = some ρ1) (h2 : evSs pg b ρ1 = .cnt ρ') : loopF pg tg b (d :: ds) ρ = loopF pg tg b ds ρ' := by
  unfold loopF
  show (match bindD tg d ρ with | none => Ou.stuck | some ρ1 => match evSs pg b ρ1 with | .nx ρ' => _ | .cnt ρ' => _ | .brk ρ' => Ou.nx ρ' | o => o) = _
  rw [h1]
  show (match evSs pg b ρ1 with | .nx ρ' => _ | .cnt ρ' => _ | .brk ρ' => Ou.nx ρ' | o => o) = _
  rw [h2]
theorem loopF_ret {pg : Pg} {tg : Tg} {b : Ss} {d : D} {ds : List D} {ρ ρ1 : En} {o : O} (h1 : bindD tg d ρ = some ρ1) (h2 : evSs pg b ρ1 = .ret o) : loopF pg tg b (d :: ds) ρ = .ret o := by
  unfold loopF
  show (match bindD tg d ρ with | none => Ou.stuck | some ρ1 => match evSs pg b ρ1 with | .nx ρ' => _ | .cnt ρ' => _ | .brk ρ' => Ou.nx ρ' | o => o) = _
  rw [h1]
  show (match evSs pg b ρ1 with | .nx ρ' => _ | .cnt ρ' => _ | .brk ρ' => Ou.nx ρ' | o => o) = _
  rw [h2]
theorem loopF_brk {pg : Pg} {tg : Tg} {b : Ss} {d : D} {ds : List D} {ρ ρ1 ρ' : En} (h1 : bindD tg d ρ = some ρ1) (h2 : evSs pg b ρ1 = .brk ρ') : loopF pg tg b (d :: ds) ρ = .nx ρ' := by
  unfold loopF
  show (match bindD tg d ρ with | none => Ou.stuck | some ρ1 => match evSs pg b ρ1 with | .nx ρ' => _ | .cnt ρ' => _ | .brk ρ' => Ou.nx ρ' | o => o) = _
  rw [h1]
  show (match evSs pg b ρ1 with | .nx ρ' => _ | .cnt ρ' => _ | .brk ρ' => Ou.nx ρ' | o => o) = _
  rw [h2]
theorem loopF_inv {pg : Pg} {tg : Tg} {b : Ss} (I : Nat → En → Prop) {ds : List D} {ρ : En} (h : I 0 ρ) (st : ∀ i d ρ, ds[i]? = some d → I i ρ → ∃ ρ1 ρ', bindD tg d ρ = some ρ1 ∧ (evSs pg b ρ1 = .nx ρ' ∨ evSs pg b ρ1 = .cnt ρ') ∧ I (i + 1) ρ') : ∃ ρ', loopF pg tg b ds ρ = .nx ρ' ∧ I ds.length ρ' := by
  obtain ⟨ρ', h1, h2⟩ := forL_inv (bind := bindD tg) (b := fun ρ => evSs pg b ρ) I ds 0 ρ h (fun i d ρ e hI => by
    rw [Nat.zero_add] at hI ⊢
    exact st i d ρ e hI)
  rw [Nat.zero_add] at h2
  exact ⟨ρ', h1, h2⟩
/-! _law_long -/
def longI (xs : List Int) (s : Nat) : Nat → Int
  | 0 => 0
  | k + 1 => longI xs s k * 1000 + xs.getD (s + k) 0
theorem long_bd {xs : List Int} (hc : Cells xs) (s : Nat) : ∀ k : Nat, s + k ≤ xs.length → 0 ≤ longI xs s k ∧ longI xs s k < 1000 ^ k
  | 0, _ => by simp [longI]
  | k + 1, h => by
    have ih := long_bd hc s k (by omega)
    have hx : xs.getD (s + k) 0 = xs[s + k] := by rw [List.getD_eq_getElem?_getD, List.getElem?_eq_getElem (by omega)]; rfl
    have hb := hc xs[s + k] (List.getElem_mem _)
    unfold longI
    rw [hx, Int.pow_succ]
    omega
theorem subR_add {xs : List Int} {s k : Nat} (h : s + k < xs.length) : subR (.val true (.lst (iDs xs))) ((s : Int) + (k : Int)) = some (.val true (.int xs[s + k])) := by
  have := subR_ints (c := true) h
  simpa using this
theorem ev_long {P : PgD} (h : P.dfs 3 = some df__law_long) (n : Nat) (xs : List Int) (s many : Nat) (hl : s + many ≤ xs.length) (hz : xs.length < 1000) :
    callN P (n + 1) 3 [.lst (iDs xs), .int s, .int many] = .ok (.sh (.int (longI xs s many))) := by
  rw [callN_eq h rfl]
  have rm : rngOk (many : Int) = true := rng_ok (by omega)
  have m1 : ∀ i, mulOk i 1000 = true := fun i => mul_or (.inr (by decide))
  obtain ⟨ρ', e1, x, e2⟩ := loopF_inv (pg := pgN P n) (tg := .name 4) (b := df__law_long_b1) (fun k ρ => ∃ x, ρ = [some (.sh (.lst (iDs xs))), sI s, sI many, sI (longI xs s k), x]) (ds := rngD 0 many) (ρ := [some (.sh (.lst (iDs xs))), sI s, sI many, sI 0, none]) ⟨none, rfl⟩ (fun i d ρ hd ⟨x, hI⟩ => by
    obtain ⟨rfl, hi⟩ := rng_get hd
    subst hI
    refine ⟨_, _, bindD_name (by simp), .inl ?_, sI i, rfl⟩
    have hx : (xs[s + i]?).getD 0 = xs[s + i] := by rw [List.getElem?_eq_getElem (by omega)]; rfl
    simp -implicitDefEqProofs [df__law_long_b1, m1, subR_add (xs := xs) (s := s) (k := i) (by omega), longI, hx])
  rw [rng_len] at e2
  subst e2
  simp -implicitDefEqProofs [df__law_long, enOf, rm, e1]
/-! _law_gcd -/
theorem bits_gt (i : Int) : i.natAbs < 2 ^ Builtin.Int.intBits i := by
  unfold Builtin.Int.intBits
  split
  · rename_i h
    have : i = 0 := by simpa using h
    subst this
    decide
  · rename_i h
    have : i ≠ 0 := by simpa using h
    exact (Nat.log2_lt (by omega)).mp (Nat.lt_succ_self _)
theorem gcd_b0 (pg : Pg) (a : Int) (x : Option O) : evSs pg df__law_gcd_b1 [sI a, sI 0, x] = .ret (.sh (.int a)) := by
  simp -implicitDefEqProofs [df__law_gcd_b1]
theorem gcd_b1 (pg : Pg) (a b : Int) (hb : 0 < b) (x : Option O) : evSs pg df__law_gcd_b1 [sI a, sI b, x] = .nx [sI b, sI (a % b), x] := by
  have : ¬ b = 0 := by omega
  simp -implicitDefEqProofs [df__law_gcd_b1, this, hb, parR, ros, setOs]
def gcdI (a b : Int) : Int := ((Nat.gcd a.natAbs b.natAbs : Nat) : Int)
theorem gcdI_mod (a b : Int) (ha : 0 ≤ a) (hb : 0 < b) : gcdI b (a % b) = gcdI a b := by
  obtain ⟨m, rfl⟩ := Int.eq_ofNat_of_zero_le ha
  obtain ⟨n, rfl⟩ := Int.eq_ofNat_of_zero_le (Int.le_of_lt hb)
  unfold gcdI
  congr 1
  rw [← Int.natCast_emod]
  simp only [Int.natAbs_natCast]
  rw [Nat.gcd_comm n (m % n), ← Nat.gcd_rec, Nat.gcd_comm]
theorem gcd_loop (pg : Pg) : ∀ (m : Nat) (a b : Int) (x : Option O) (ds : List D), 0 ≤ a → 0 ≤ b → b < 2 ^ m → 2 * m + 1 ≤ ds.length → loopF pg (.name 2) df__law_gcd_b1 ds [sI a, sI b, x] = .ret (.sh (.int (gcdI a b)))
  | m, a, b, x, [], ha, hb, hm, hl => by simp at hl
  | m, a, b, x, d :: ds, ha, hb, hm, hl => by
    by_cases h0 : b = 0
    · subst h0
      rw [loopF_ret (ρ1 := [sI a, sI 0, some (.sh d)]) rfl (gcd_b0 pg a _)]
      simp only [gcdI, Int.natAbs_zero, Nat.gcd_zero_right]
      congr 3
      omega
    · have hb' : 0 < b := by omega
      rw [loopF_nx (ρ1 := [sI a, sI b, some (.sh d)]) rfl (gcd_b1 pg a b hb' _), ← gcdI_mod a b ha hb']
      have hr0 : 0 ≤ a % b := Int.emod_nonneg _ h0
      have hr1 : a % b < b := Int.emod_lt_of_pos _ hb'
      cases m with
      | zero => simp at hm; omega
      | succ m =>
        cases ds with
        | nil => simp at hl
        | cons e ds =>
          by_cases h1 : a % b = 0
          · rw [h1, loopF_ret (ρ1 := [sI b, sI 0, some (.sh e)]) rfl (gcd_b0 pg b _)]
            simp only [gcdI, Int.natAbs_zero, Nat.gcd_zero_right]
            congr 3
            omega
          · have h1' : 0 < a % b := by omega
            rw [loopF_nx (ρ1 := [sI b, sI (a % b), some (.sh e)]) rfl (gcd_b1 pg b (a % b) h1' _), ← gcdI_mod b (a % b) hb h1']
            have q0 : 0 ≤ b % (a % b) := Int.emod_nonneg _ h1
            have q1 : b % (a % b) < a % b := Int.emod_lt_of_pos _ h1'
            have q2 : 2 * (b % (a % b)) < b := by
              have e1 := Int.emod_add_mul_ediv b (a % b)
              have e2 : 1 ≤ b / (a % b) := Int.le_ediv_of_mul_le h1' (by omega)
              have e3 : a % b ≤ (a % b) * (b / (a % b)) := by
                have := Int.mul_le_mul_of_nonneg_left e2 hr0
                omega
              omega
            refine gcd_loop pg m (a % b) (b % (a % b)) _ ds hr0 q0 ?_ ?_
            · rw [Int.pow_succ] at hm
              omega
            · simp only [List.length_cons] at hl
              omega
theorem ev_gcd {P : PgD} (h : P.dfs 4 = some df__law_gcd) (n : Nat) (a b : Int) (ha : 0 ≤ a) (hb : 0 ≤ b) (hz : Builtin.Int.intBits b < 2 ^ 60) :
    callN P (n + 1) 4 [.int a, .int b] = .ok (.sh (.int (gcdI a b))) := by
  rw [callN_eq h rfl]
  have hb2 := bits_gt b
  have rm : rngOk (2 * ((Builtin.Int.intBits b : Nat) : Int) + 2) = true := by
    have := rng_ok (k := 2 * Builtin.Int.intBits b + 2) (by omega)
    simpa using this
  have m2 : ∀ i, mulOk 2 i = true := fun i => mul_or (.inl (by decide))
  have hb3 : b < 2 ^ Builtin.Int.intBits b := by
    obtain ⟨m, rfl⟩ := Int.eq_ofNat_of_zero_le hb
    rw [Int.natAbs_natCast] at hb2
    exact_mod_cast hb2
  have e1 := gcd_loop (pgN P n) (Builtin.Int.intBits b) a b none (rngD 0 (2 * Builtin.Int.intBits b + 2)) ha hb hb3 (by rw [rng_len]; omega)
  have e2 : (2 * ((Builtin.Int.intBits b : Nat) : Int) + 2).toNat = 2 * Builtin.Int.intBits b + 2 := by omega
  simp -implicitDefEqProofs [df__law_gcd, enOf, rm, m2, e1, e2]
/-! _law_is_fraction -/
theorem subR_tup0 {a b : D} : subR (.val true (.tup [a, b])) 0 = some (.val true a) := rfl
theorem subR_tup1 {a b : D} : subR (.val true (.tup [a, b])) 1 = some (.val true b) := rfl
theorem ev_is_fraction {P : PgD} (h : P.dfs 5 = some df__law_is_fraction) (h1 : P.dfs 1 = some df__law_is_integer) (h4 : P.dfs 4 = some df__law_gcd) (n : Nat) (a b : Int) (hb : 1 ≤ b) (hz : Builtin.Int.intBits b < 2 ^ 60) :
    callN P (n + 2) 5 [.tup [.int a, .int b]] = .ok (.sh (.bl (decide (gcdI a b = 1)))) := by
  rw [callN_eq h rfl]
  have c1 : ∀ i, evCall ((pgN P (n + 1)).ar 1) ((pgN P (n + 1)).call 1) (.ok [.val true (.int i)]) = .ok (.val true (.bl true)) := fun i => by
    rw [evCall_ok (o := .sh (.bl true)) (by rw [pgN_ar h1]; rfl) (ev_is_integer h1 n i)]
    rfl
  have c4 : ∀ i, 0 ≤ i → evCall ((pgN P (n + 1)).ar 4) ((pgN P (n + 1)).call 4) (.ok [.val true (.int i), .val true (.int b)]) = .ok (.val true (.int (gcdI i b))) := fun i hi => by
    rw [evCall_ok (o := .sh (.int (gcdI i b))) (by rw [pgN_ar h4]; rfl) (ev_gcd h4 n i b hi (by omega) hz)]
    rfl
  have ab : gcdI (if a < 0 then -a else a) b = gcdI a b := by
    unfold gcdI
    split <;> simp
  have hn : ¬ b < 1 := by omega
  have nn : 0 ≤ (if a < 0 then -a else a) := by split <;> omega
  have i1 : pIsT "tuple" (.tup [.int a, .int b]) = some true := rfl
  simp -implicitDefEqProofs [df__law_is_fraction, enOf, subR_tup0, subR_tup1, c1, c4 _ nn, ab, hn, i1]
end TL

namespace TL
open PySem PySem.Spec L2
theorem lg_of {x n : Nat} (h : x < 2 ^ n) (hn : 0 < n) : x.log2 < n := by
  by_cases h0 : x = 0
  · subst h0
    exact hn
  · exact (Nat.log2_lt h0).mpr h
theorem mul_bd {i j : Int} {a b : Nat} (hi : i.natAbs < 2 ^ a) (hj : j.natAbs < 2 ^ b) (ha : 0 < a) (hb : 0 < b) (h : a + b ≤ 1000000) : mulOk i j = true := by
  have h1 := lg_of hi ha
  have h2 := lg_of hj hb
  exact mul_small (by omega)
theorem abs_mul_lt {i j : Int} {a b : Nat} (hi : i.natAbs < 2 ^ a) (hj : j.natAbs < 2 ^ b) : (i * j).natAbs < 2 ^ (a + b) := by
  rw [Int.natAbs_mul, Nat.pow_add]
  exact Nat.mul_lt_mul_of_lt_of_le hi (Nat.le_of_lt hj) (Nat.two_pow_pos b)
/-! what ratio computes -/
theorem low_ok (p q : Int) (hq : q ≠ 0) : 1 ≤ (low p q).2 ∧ gcdI (low p q).1 (low p q).2 = 1 ∧ (low p q).1 * q = p * (low p q).2 ∧ (low p q).1.natAbs ≤ p.natAbs ∧ (low p q).2.natAbs ≤ q.natAbs := by
  have hg : 0 < Nat.gcd p.natAbs q.natAbs := Nat.gcd_pos_of_pos_right _ (by omega)
  have ap : (lowP p q).natAbs = p.natAbs := by unfold lowP; split <;> simp
  have aq : (lowQ q).natAbs = q.natAbs := by unfold lowQ; split <;> simp
  have pq : 0 < lowQ q := by unfold lowQ; split <;> omega
  have dp : ((Nat.gcd p.natAbs q.natAbs : Nat) : Int) ∣ lowP p q := by
    rw [← Int.natAbs_dvd_natAbs, ap, Int.natAbs_natCast]
    exact Nat.gcd_dvd_left _ _
  have dq : ((Nat.gcd p.natAbs q.natAbs : Nat) : Int) ∣ lowQ q := by
    rw [← Int.natAbs_dvd_natAbs, aq, Int.natAbs_natCast]
    exact Nat.gcd_dvd_right _ _
  have nP : (low p q).1.natAbs = p.natAbs / Nat.gcd p.natAbs q.natAbs := by
    show (lowP p q / _).natAbs = _
    rw [Int.natAbs_ediv_of_dvd dp, ap]
    rfl
  have nQ : (low p q).2.natAbs = q.natAbs / Nat.gcd p.natAbs q.natAbs := by
    show (lowQ q / _).natAbs = _
    rw [Int.natAbs_ediv_of_dvd dq, aq]
    rfl
  have eP : (low p q).1 * ((Nat.gcd p.natAbs q.natAbs : Nat) : Int) = lowP p q := Int.ediv_mul_cancel dp
  have eQ : (low p q).2 * ((Nat.gcd p.natAbs q.natAbs : Nat) : Int) = lowQ q := Int.ediv_mul_cancel dq
  generalize hP : (low p q).1 = P at *
  generalize hQ : (low p q).2 = Q at *
  generalize hG : ((Nat.gcd p.natAbs q.natAbs : Nat) : Int) = G at *
  have hG0 : 0 < G := by omega
  refine ⟨?_, ?_, ?_, ?_, ?_⟩
  · rcases Int.lt_trichotomy 0 Q with h | h | h
    · omega
    · rw [← h] at eQ; simp at eQ; omega
    · have : Q * G < 0 := Int.mul_neg_of_neg_of_pos h hG0
      omega
  · unfold gcdI
    rw [nP, nQ, Nat.gcd_div_gcd_div_gcd_of_pos_right (by omega)]
    rfl
  · have key : P * lowQ q = lowP p q * Q := by
      rw [← eQ, ← eP, Int.mul_assoc P G Q, Int.mul_comm G Q, ← Int.mul_assoc]
    unfold lowQ lowP at key
    split at key
    · simp only [Int.mul_neg, Int.neg_mul] at key
      omega
    · exact key
  · rw [nP]; exact Nat.div_le_self _ _
  · rw [nQ]; exact Nat.div_le_self _ _
theorem cross {P Q p q t : Int} (ht : t ≠ 0) (h : P * (q * t) = p * t * Q) : P * q = p * Q := by
  have : (P * q) * t = (p * Q) * t := by
    rw [Int.mul_assoc, h, Int.mul_right_comm]
  exact Int.eq_of_mul_eq_mul_right ht this
end TL

namespace TL
open PySem PySem.Spec L2
/-- the k-th cell -/
def cl (xs : List Int) (k : Nat) : Int := xs.getD k 0
theorem cl_bd {xs : List Int} (hc : Cells xs) (k : Nat) : 0 ≤ cl xs k ∧ cl xs k < 1000 := by
  unfold cl
  rw [List.getD_eq_getElem?_getD]
  cases e : xs[k]? with
  | none => simp
  | some x => exact hc x (List.mem_of_getElem? e)
theorem subR_cl {xs : List Int} {k : Nat} (h : k < xs.length) : subR (.val true (.lst (iDs xs))) (k : Int) = some (.val true (.int (cl xs k))) := by
  rw [subR_ints h]
  unfold cl
  rw [List.getD_eq_getElem?_getD, List.getElem?_eq_getElem h]
  rfl
theorem subR_clN {xs : List Int} (k : Nat) [OfNat Int k] {j : Int} (e : (k : Int) = j) (h : k < xs.length) : subR (.val true (.lst (iDs xs))) j = some (.val true (.int (cl xs k))) := by
  rw [← e]
  exact subR_cl h
/-- a call, by its def's law -/
theorem call_eq {P : PgD} {n k : Nat} {d : Df} {rs : List R} {o : O} (h : P.dfs k = some d) (hl : rs.length = d.ar) (hc : cleans rs = true) (he : callN P n k (rds rs) = .ok o) : evCall ((pgN P n).ar k) ((pgN P n).call k) (.ok rs) = .ok (mkOwn o) := by
  have := evCall_ok (n := (pgN P n).ar k) (G := (pgN P n).call k) (rs := rs) (o := o) (by rw [pgN_ar h]; exact hl) he
  rw [this, hc]
  rfl
theorem call_sh {P : PgD} {n k : Nat} {d : Df} {rs : List R} {x : D} (h : P.dfs k = some d) (hl : rs.length = d.ar) (hc : cleans rs = true) {ds : List D} (he : callN P n k ds = .ok (.sh x)) (hd : rds rs = ds) : evCall ((pgN P n).ar k) ((pgN P n).call k) (.ok rs) = .ok (.val true x) :=
  call_eq h hl hc (by rw [hd]; exact he)
theorem call_ls {P : PgD} {n k : Nat} {d : Df} {rs : List R} {x : List O} (h : P.dfs k = some d) (hl : rs.length = d.ar) (hc : cleans rs = true) {ds : List D} (he : callN P n k ds = .ok (.lst x)) (hd : rds rs = ds) : evCall ((pgN P n).ar k) ((pgN P n).call k) (.ok rs) = .ok (.own (.lst x)) :=
  call_eq h hl hc (by rw [hd]; exact he)
theorem long_bd200 {xs : List Int} (hc : Cells xs) {s m : Nat} (h1 : s + m ≤ xs.length) (h2 : m ≤ 20) : 0 ≤ longI xs s m ∧ longI xs s m < 2 ^ 200 := by
  have := long_bd hc s m h1
  refine ⟨this.1, Int.lt_of_lt_of_le this.2 ?_⟩
  have e1 : (1000 : Int) ^ m ≤ 1000 ^ 20 := by
    have := Nat.pow_le_pow_right (n := 1000) (by decide) h2
    exact_mod_cast this
  have e2 : (1000 : Int) ^ 20 ≤ 2 ^ 200 := by decide +kernel
  omega
end TL

namespace TL
open PySem PySem.Spec L2
/-- a fraction's value -/
def frD (x : Int × Int) : D := .tup [.int x.1, .int x.2]
/-- in lowest terms, small -/
structure Fr (n : Nat) (x : Int × Int) : Prop where
  pos : 1 ≤ x.2
  low : gcdI x.1 x.2 = 1
  b1 : x.1.natAbs < 2 ^ n
  b2 : x.2.natAbs < 2 ^ n
theorem Fr.mono {n m : Nat} {x : Int × Int} (h : Fr n x) (k : n ≤ m) : Fr m x := ⟨h.pos, h.low, Nat.lt_of_lt_of_le h.b1 (Nat.pow_le_pow_right (by decide) k), Nat.lt_of_lt_of_le h.b2 (Nat.pow_le_pow_right (by decide) k)⟩
@[simp] theorem subR_fr0 {c : Bool} {x : Int × Int} : subR (.val c (frD x)) 0 = some (.val (R.val c (frD x)).clean (.int x.1)) := rfl
@[simp] theorem subR_fr1 {c : Bool} {x : Int × Int} : subR (.val c (frD x)) 1 = some (.val (R.val c (frD x)).clean (.int x.2)) := rfl
@[simp] theorem of_some {α : Type} (a : α) : M.of (some a) = .ok a := rfl
theorem bits_of {i : Int} {n : Nat} (h : i.natAbs < 2 ^ n) (hn : n ≤ 100000) : Builtin.Int.intBits i < 2 ^ 60 := by
  have := PyProof.Rows.intBits_le h
  omega
theorem low_fr {p q : Int} {n : Nat} (hq : q ≠ 0) (hp : p.natAbs < 2 ^ n) (hqb : q.natAbs < 2 ^ n) : Fr n (low p q) := by
  obtain ⟨h1, h2, h3, h4, h5⟩ := low_ok p q hq
  exact ⟨h1, h2, Nat.lt_of_le_of_lt h4 hp, Nat.lt_of_le_of_lt h5 hqb⟩
theorem gcd_log {p q : Int} {n : Nat} (hq : q ≠ 0) (hqb : q.natAbs < 2 ^ n) (hn : n ≤ 8000) : (Nat.gcd p.natAbs q.natAbs).log2 < 9000 := by
  have h1 : Nat.gcd p.natAbs q.natAbs ≤ q.natAbs := Nat.gcd_le_right _ (by omega)
  have h2 := lg_of (n := 8001) (Nat.lt_of_lt_of_le (Nat.lt_of_le_of_lt h1 hqb) (Nat.pow_le_pow_right (by decide) (by omega))) (by omega)
  omega
theorem ev_ratio' {P : PgD} (h : P.dfs 0 = some df_ratio) (n : Nat) (p q : Int) {m : Nat} (hq : q ≠ 0) (hqb : q.natAbs < 2 ^ m) (hm : m ≤ 8000) : callN P (n + 1) 0 [.int p, .int q] = .ok (.sh (frD (low p q))) :=
  ev_ratio h n p q hq (gcd_log hq hqb hm)
theorem ev_lowest {P : PgD} (h : P.dfs 12 = some df__law_lowest) (h4 : P.dfs 4 = some df__law_gcd) (n : Nat) (p q : Int) {m : Nat} (hq : 1 ≤ q) (hqb : q.natAbs < 2 ^ m) (hm : m ≤ 1000) : callN P (n + 2) 12 [.int p, .int q] = .ok (.sh (frD (low p q))) := by
  rw [callN_eq h rfl]
  have nn : 0 ≤ (if p < 0 then -p else p) := by split <;> omega
  have ab : gcdI (if p < 0 then -p else p) q = gcdI p q := by
    unfold gcdI
    split <;> simp
  have c4 := call_sh (P := P) (n := n + 1) (k := 4) (d := df__law_gcd) (rs := [.val true (.int (if p < 0 then -p else p)), .val true (.int q)]) h4 rfl rfl (ev_gcd h4 n _ q nn (by omega) (bits_of hqb (by omega))) rfl
  rw [ab] at c4
  have hl := gcd_log (p := p) (q := q) (by omega) hqb (by omega)
  have hg : 0 < Nat.gcd p.natAbs q.natAbs := Nat.gcd_pos_of_pos_right _ (by omega)
  have hd : ∀ i, divOk i (gcdI p q) = true := fun i => by
    unfold gcdI
    exact div_of (by omega) (by simpa using hl)
  have e : frD (low p q) = .tup [.int (p / gcdI p q), .int (q / gcdI p q)] := by
    have hn : ¬ q < 0 := by omega
    simp [frD, low, lowP, lowQ, hn, gcdI]
  rw [e]
  simp -implicitDefEqProofs [df__law_lowest, enOf, c4, hd, mkTup, ros, shs, sizeLine_eq]
theorem subR_own {xs : List Int} {k : Nat} [OfNat Int k] {j : Int} (e : (k : Int) = j) (h : k < xs.length) : subR (.own (.lst (iOs xs))) j = some (.val true (.int (cl xs k))) := by
  have : subR (.own (.lst (iOs xs))) j = subR (.val true (.lst (iDs xs))) j := by
    show subD true (.lst (ods (iOs xs))) j = subD true (.lst (iDs xs)) j
    rw [iOs_d]
  rw [this, ← e]
  exact subR_cl h
theorem long_bd100 {xs : List Int} (hc : Cells xs) {s m : Nat} (h1 : s + m ≤ xs.length) (h2 : m ≤ 10) : 0 ≤ longI xs s m ∧ longI xs s m < 2 ^ 100 := by
  have := long_bd hc s m h1
  refine ⟨this.1, Int.lt_of_lt_of_le this.2 ?_⟩
  have e1 : (1000 : Int) ^ m ≤ 1000 ^ 10 := by
    have := Nat.pow_le_pow_right (n := 1000) (by decide) h2
    exact_mod_cast this
  have e2 : (1000 : Int) ^ 10 ≤ 2 ^ 100 := by decide +kernel
  omega
theorem ev_drawn {P : PgD} (h : P.dfs 13 = some df__law_drawn) (h3 : P.dfs 3 = some df__law_long) (h12 : P.dfs 12 = some df__law_lowest) (h4 : P.dfs 4 = some df__law_gcd) (n : Nat) (xs : List Int) (hl : xs.length = 24) (hc : Cells xs) :
    ∃ x : Int × Int, Fr 100 x ∧ callN P (n + 3) 13 [.lst (iDs xs)] = .ok (.sh (frD x)) := by
  have i0 := subR_clN (xs := xs) 0 (j := 0) rfl (by omega)
  have i1 := subR_clN (xs := xs) 1 (j := 1) rfl (by omega)
  have x0 := cl_bd hc 0
  have x1 := cl_bd hc 1
  obtain ⟨m0, hm0, hm0'⟩ : ∃ m : Nat, 1 + cl xs 0 % 10 = (m : Int) ∧ m ≤ 10 := ⟨(1 + cl xs 0 % 10).toNat, by omega, by omega⟩
  obtain ⟨m1, hm1, hm1'⟩ : ∃ m : Nat, 1 + cl xs 1 % 10 = (m : Int) ∧ m ≤ 10 := ⟨(1 + cl xs 1 % 10).toNat, by omega, by omega⟩
  have p1 := call_sh (P := P) (n := n + 2) (k := 3) (d := df__law_long) (rs := [.val true (.lst (iDs xs)), .val true (.int 2), .val true (.int m0)]) h3 rfl rfl (ev_long h3 (n + 1) xs 2 m0 (by omega) (by omega)) rfl
  have p2 := call_sh (P := P) (n := n + 2) (k := 3) (d := df__law_long) (rs := [.val true (.lst (iDs xs)), .val true (.int 12), .val true (.int m1)]) h3 rfl rfl (ev_long h3 (n + 1) xs 12 m1 (by omega) (by omega)) rfl
  have b1 := long_bd100 hc (s := 2) (m := m0) (by omega) hm0'
  have b2 := long_bd100 hc (s := 12) (m := m1) (by omega) hm1'
  generalize longI xs 2 m0 = P0 at *
  generalize longI xs 12 m1 = Q0 at *
  have q1 : 1 ≤ (if Q0 > 1 then Q0 else 1) := by split <;> omega
  have q2 : (if Q0 > 1 then Q0 else 1) < 2 ^ 100 := by split <;> omega
  generalize hQ : (if Q0 > 1 then Q0 else 1) = Q at *
  have d10 : ∀ i, divOk i 10 = true := fun i => div_of (by decide) (by decide +kernel)
  have fin : ∀ p q : Int, 1 ≤ q → p.natAbs < 2 ^ 100 → q.natAbs < 2 ^ 100 → ∃ x : Int × Int, Fr 100 x ∧ evCall ((pgN P (n + 2)).ar 12) ((pgN P (n + 2)).call 12) (.ok [.val true (.int p), .val true (.int q)]) = .ok (.val true (frD x)) := fun p q hq hp hqb =>
    ⟨low p q, low_fr (by omega) hp hqb, call_sh (P := P) (n := n + 2) (k := 12) (d := df__law_lowest) (rs := [.val true (.int p), .val true (.int q)]) h12 rfl rfl (ev_lowest h12 h4 n p q hq hqb (by decide)) rfl⟩
  obtain ⟨y1, g1, f1⟩ := fin P0 Q (by omega) (by omega) (by omega)
  obtain ⟨y2, g2, f2⟩ := fin (-P0) Q (by omega) (by omega) (by omega)
  obtain ⟨y3, g3, f3⟩ := fin (P0 % 13) (1 + Q % 9) (by omega) (by omega) (by omega)
  obtain ⟨y4, g4, f4⟩ := fin (-(P0 % 13)) (1 + Q % 9) (by omega) (by omega) (by omega)
  rw [callN_eq h rfl]
  by_cases ha : cl xs 0 / 10 % 4 < 2 <;> by_cases hb : cl xs 1 / 10 % 2 = 1
  · exact ⟨y4, g4, by simp -implicitDefEqProofs [df__law_drawn, enOf, i0, i1, hm0, hm1, p1, p2, hQ, d10, ha, hb, f4]⟩
  · exact ⟨y3, g3, by simp -implicitDefEqProofs [df__law_drawn, enOf, i0, i1, hm0, hm1, p1, p2, hQ, d10, ha, hb, f3]⟩
  · exact ⟨y2, g2, by simp -implicitDefEqProofs [df__law_drawn, enOf, i0, i1, hm0, hm1, p1, p2, hQ, d10, ha, hb, f2]⟩
  · exact ⟨y1, g1, by simp -implicitDefEqProofs [df__law_drawn, enOf, i0, i1, hm0, hm1, p1, p2, hQ, d10, ha, hb, f1]⟩
end TL

namespace TL
open PySem PySem.Spec L2
theorem Fr.mpos {m : Nat} {x : Int × Int} (h : Fr m x) : 0 < m := by
  cases m with
  | zero => have := h.b2; have := h.pos; simp at *; omega
  | succ m => omega
theorem abs_add_lt {i j : Int} {n : Nat} (hi : i.natAbs < 2 ^ n) (hj : j.natAbs < 2 ^ n) : (i + j).natAbs < 2 ^ (n + 1) := by
  rw [Nat.pow_succ]
  omega
theorem abs_sub_lt {i j : Int} {n : Nat} (hi : i.natAbs < 2 ^ n) (hj : j.natAbs < 2 ^ n) : (i - j).natAbs < 2 ^ (n + 1) := by
  rw [Nat.pow_succ]
  omega
def addF (x y : Int × Int) : Int × Int := low (x.1 * y.2 + y.1 * x.2) (x.2 * y.2)
def subF (x y : Int × Int) : Int × Int := low (x.1 * y.2 - y.1 * x.2) (x.2 * y.2)
def mulF (x y : Int × Int) : Int × Int := low (x.1 * y.1) (x.2 * y.2)
def divF (x y : Int × Int) : Int × Int := low (x.1 * y.2) (x.2 * y.1)
section
variable {P : PgD} {n : Nat} {x y : Int × Int} {m : Nat}
theorem ne_mul (hx : Fr m x) (hy : Fr m y) : x.2 * y.2 ≠ 0 := Int.mul_ne_zero (by have := hx.pos; omega) (by have := hy.pos; omega)
theorem ev_add (h : P.dfs 7 = some df_add) (h0 : P.dfs 0 = some df_ratio) (hx : Fr m x) (hy : Fr m y) (hm : m ≤ 4000) : callN P (n + 2) 7 [frD x, frD y] = .ok (.sh (frD (addF x y))) := by
  rw [callN_eq h rfl]
  have m1 : mulOk x.1 y.2 = true := mul_bd hx.b1 hy.b2 hx.mpos hx.mpos (by omega)
  have m2 : mulOk y.1 x.2 = true := mul_bd hy.b1 hx.b2 hx.mpos hx.mpos (by omega)
  have m3 : mulOk x.2 y.2 = true := mul_bd hx.b2 hy.b2 hx.mpos hx.mpos (by omega)
  have c := call_sh (P := P) (n := n + 1) (k := 0) (d := df_ratio) (rs := [.val true (.int (x.1 * y.2 + y.1 * x.2)), .val true (.int (x.2 * y.2))]) h0 rfl rfl (ev_ratio' h0 n _ _ (m := m + m) (ne_mul hx hy) (abs_mul_lt hx.b2 hy.b2) (by omega)) rfl
  simp -implicitDefEqProofs [df_add, enOf, m1, m2, m3, c, addF]
theorem ev_sub (h : P.dfs 8 = some df_sub) (h0 : P.dfs 0 = some df_ratio) (hx : Fr m x) (hy : Fr m y) (hm : m ≤ 4000) : callN P (n + 2) 8 [frD x, frD y] = .ok (.sh (frD (subF x y))) := by
  rw [callN_eq h rfl]
  have m1 : mulOk x.1 y.2 = true := mul_bd hx.b1 hy.b2 hx.mpos hx.mpos (by omega)
  have m2 : mulOk y.1 x.2 = true := mul_bd hy.b1 hx.b2 hx.mpos hx.mpos (by omega)
  have m3 : mulOk x.2 y.2 = true := mul_bd hx.b2 hy.b2 hx.mpos hx.mpos (by omega)
  have c := call_sh (P := P) (n := n + 1) (k := 0) (d := df_ratio) (rs := [.val true (.int (x.1 * y.2 - y.1 * x.2)), .val true (.int (x.2 * y.2))]) h0 rfl rfl (ev_ratio' h0 n _ _ (m := m + m) (ne_mul hx hy) (abs_mul_lt hx.b2 hy.b2) (by omega)) rfl
  simp -implicitDefEqProofs [df_sub, enOf, m1, m2, m3, c, subF]
theorem ev_mul (h : P.dfs 9 = some df_mul) (h0 : P.dfs 0 = some df_ratio) (hx : Fr m x) (hy : Fr m y) (hm : m ≤ 4000) : callN P (n + 2) 9 [frD x, frD y] = .ok (.sh (frD (mulF x y))) := by
  rw [callN_eq h rfl]
  have m1 : mulOk x.1 y.1 = true := mul_bd hx.b1 hy.b1 hx.mpos hx.mpos (by omega)
  have m3 : mulOk x.2 y.2 = true := mul_bd hx.b2 hy.b2 hx.mpos hx.mpos (by omega)
  have c := call_sh (P := P) (n := n + 1) (k := 0) (d := df_ratio) (rs := [.val true (.int (x.1 * y.1)), .val true (.int (x.2 * y.2))]) h0 rfl rfl (ev_ratio' h0 n _ _ (m := m + m) (ne_mul hx hy) (abs_mul_lt hx.b2 hy.b2) (by omega)) rfl
  simp -implicitDefEqProofs [df_mul, enOf, m1, m3, c, mulF]
theorem ev_div (h : P.dfs 10 = some df_div) (h0 : P.dfs 0 = some df_ratio) (hx : Fr m x) (hy : Fr m y) (hz : y.1 ≠ 0) (hm : m ≤ 4000) : callN P (n + 2) 10 [frD x, frD y] = .ok (.sh (frD (divF x y))) := by
  rw [callN_eq h rfl]
  have m1 : mulOk x.1 y.2 = true := mul_bd hx.b1 hy.b2 hx.mpos hx.mpos (by omega)
  have m3 : mulOk x.2 y.1 = true := mul_bd hx.b2 hy.b1 hx.mpos hx.mpos (by omega)
  have nz : x.2 * y.1 ≠ 0 := Int.mul_ne_zero (by have := hx.pos; omega) hz
  have c := call_sh (P := P) (n := n + 1) (k := 0) (d := df_ratio) (rs := [.val true (.int (x.1 * y.2)), .val true (.int (x.2 * y.1))]) h0 rfl rfl (ev_ratio' h0 n _ _ (m := m + m) nz (abs_mul_lt hx.b2 hy.b1) (by omega)) rfl
  simp -implicitDefEqProofs [df_div, enOf, m1, m3, c, divF]
theorem ev_neg (h : P.dfs 11 = some df_neg) : callN P (n + 1) 11 [frD x] = .ok (.sh (frD (-x.1, x.2))) := by
  rw [callN_eq h rfl]
  simp -implicitDefEqProofs [df_neg, enOf, mkTup, ros, shs, sizeLine_eq]
  rfl
theorem add_fr (hx : Fr m x) (hy : Fr m y) : Fr (m + m + 1) (addF x y) :=
  low_fr (ne_mul hx hy) (abs_add_lt (abs_mul_lt hx.b1 hy.b2) (abs_mul_lt hy.b1 hx.b2)) (Nat.lt_of_lt_of_le (abs_mul_lt hx.b2 hy.b2) (Nat.pow_le_pow_right (by decide) (by omega)))
theorem sub_fr (hx : Fr m x) (hy : Fr m y) : Fr (m + m + 1) (subF x y) :=
  low_fr (ne_mul hx hy) (abs_sub_lt (abs_mul_lt hx.b1 hy.b2) (abs_mul_lt hy.b1 hx.b2)) (Nat.lt_of_lt_of_le (abs_mul_lt hx.b2 hy.b2) (Nat.pow_le_pow_right (by decide) (by omega)))
theorem mul_fr (hx : Fr m x) (hy : Fr m y) : Fr (m + m) (mulF x y) := low_fr (ne_mul hx hy) (abs_mul_lt hx.b1 hy.b1) (abs_mul_lt hx.b2 hy.b2)
theorem div_fr (hx : Fr m x) (hy : Fr m y) (hz : y.1 ≠ 0) : Fr (m + m) (divF x y) := low_fr (Int.mul_ne_zero (by have := hx.pos; omega) hz) (abs_mul_lt hx.b1 hy.b2) (abs_mul_lt hx.b2 hy.b1)
theorem neg_fr (hx : Fr m x) : Fr m (-x.1, x.2) := ⟨hx.pos, by have := hx.low; unfold gcdI at *; simpa using this, by have := hx.b1; show (-x.1).natAbs < _; omega, hx.b2⟩
end
theorem pIsT_fr {x : Int × Int} : pIsT "tuple" (frD x) = some true := rfl
theorem ev_is_fraction' {P : PgD} (h : P.dfs 5 = some df__law_is_fraction) (h1 : P.dfs 1 = some df__law_is_integer) (h4 : P.dfs 4 = some df__law_gcd) (n : Nat) (x : Int × Int) {m : Nat} (hx : Fr m x) (hm : m ≤ 100000) : callN P (n + 2) 5 [frD x] = .ok (.sh (.bl true)) := by
  have := ev_is_fraction h h1 h4 n x.1 x.2 hx.pos (bits_of hx.b2 hm)
  rw [hx.low] at this
  exact this
theorem ev_equals {P : PgD} (h : P.dfs 14 = some df__law_equals) (h5 : P.dfs 5 = some df__law_is_fraction) (h1 : P.dfs 1 = some df__law_is_integer) (h4 : P.dfs 4 = some df__law_gcd) (n : Nat) (x : Int × Int) (p q : Int) {m : Nat} (hx : Fr m x) (hm : m ≤ 100000) (hp : p.natAbs < 2 ^ m) (hq : q.natAbs < 2 ^ m) (e : x.1 * q = p * x.2) :
    callN P (n + 3) 14 [frD x, .int p, .int q] = .ok (.sh (.bl true)) := by
  rw [callN_eq h rfl]
  have c5 := call_sh (P := P) (n := n + 2) (k := 5) (d := df__law_is_fraction) (rs := [.val true (frD x)]) h5 rfl rfl (ev_is_fraction' h5 h1 h4 n x hx hm) rfl
  have m1 : mulOk x.1 q = true := mul_bd hx.b1 hq hx.mpos hx.mpos (by omega)
  have m2 : mulOk p x.2 = true := mul_bd hp hx.b2 hx.mpos hx.mpos (by omega)
  simp -implicitDefEqProofs [df__law_equals, enOf, c5, m1, m2, e]
end TL

namespace TL
open PySem PySem.Spec L2
/-! a body cut in two -/
def Ss.tk : Nat → Ss → Ss
  | 0, _ => .nil
  | _ + 1, .nil => .nil
  | n + 1, .cons s r => .cons s (r.tk n)
  | n + 1, .share i r => .share i (r.tk (n + 1))
def Ss.dp : Nat → Ss → Ss
  | 0, s => s
  | _ + 1, .nil => .nil
  | n + 1, .cons _ r => r.dp n
  | n + 1, .share _ r => r.dp (n + 1)
@[simp] theorem Ss.tk_z (s : Ss) : s.tk 0 = .nil := by cases s <;> rfl
@[simp] theorem Ss.tk_c (n : Nat) (s : S) (r : Ss) : (Ss.cons s r).tk (n + 1) = .cons s (r.tk n) := rfl
@[simp] theorem Ss.tk_n (n : Nat) : Ss.nil.tk n = .nil := by cases n <;> rfl
@[simp] theorem Ss.tk_s (n i : Nat) (r : Ss) : (Ss.share i r).tk (n + 1) = .share i (r.tk (n + 1)) := by rw [Ss.tk]
@[simp] theorem Ss.dp_z (s : Ss) : s.dp 0 = s := by cases s <;> rfl
@[simp] theorem Ss.dp_c (n : Nat) (s : S) (r : Ss) : (Ss.cons s r).dp (n + 1) = r.dp n := rfl
@[simp] theorem Ss.dp_s (n i : Nat) (r : Ss) : (Ss.share i r).dp (n + 1) = r.dp (n + 1) := by rw [Ss.dp]
theorem evSs_cut (pg : Pg) : ∀ (s : Ss) (k : Nat) (ρ ρ' : En), evSs pg (s.tk k) ρ = .nx ρ' → evSs pg s ρ = evSs pg (s.dp k) ρ'
  | s, 0, ρ, ρ', h => by
    rw [Ss.tk_z, evSs_nil] at h
    cases h
    rw [Ss.dp_z]
  | .nil, k + 1, ρ, ρ', h => by
    rw [Ss.tk_n, evSs_nil] at h
    cases h
    rfl
  | .cons s r, k + 1, ρ, ρ', h => by
    rw [Ss.tk_c, evSs_cons] at h
    rw [Ss.dp_c, evSs_cons]
    cases e : evS pg s ρ with
    | nx ρ1 =>
      rw [e, seqM_nx] at h
      rw [seqM_nx]
      exact evSs_cut pg r k ρ1 ρ' h
    | stuck => rw [e] at h; cases h
    | brk ρ1 => rw [e] at h; cases h
    | cnt ρ1 => rw [e] at h; cases h
    | ret o => rw [e] at h; cases h
    | rai c p ρ1 => rw [e] at h; cases h
  | .share i r, k + 1, ρ, ρ', h => by
    rw [Ss.tk_s, evSs_share] at h
    rw [Ss.dp_s, evSs_share]
    exact evSs_cut pg r (k + 1) _ ρ' h
theorem callN_cut {P : PgD} {n k : Nat} {d : Df} {ds : List D} {ρ' : En} (h : P.dfs k = some d) (l : ds.length = d.ar) (j : Nat) (e : evSs (pgN P n) (d.body.tk j) (enOf d.N.length ds) = .nx ρ') : callN P (n + 1) k ds = ouM (evSs (pgN P n) (d.body.dp j) ρ') := by
  rw [callN_eq h l, evSs_cut _ _ j _ _ e]
end TL

namespace TL
open PySem PySem.Spec L2
/-! comprehensions -/
noncomputable def compM (pg : Pg) (elt : E) (tg : Tg) (cond : Bo) (vs : List Nat) (m : M (Bool × List D)) (ρ : En) : M R := compV m (bindD tg) (fun ρ => evBo pg cond ρ) (fun ρ => evE pg elt ρ) vs ρ
theorem evE_comp {pg : Pg} {elt : E} {tg : Tg} {it : I} {cond : Bo} {vs : List Nat} {ρ : En} (h : (tg.slots.all fun j => vs.contains j) = true) : evE pg (.comp elt tg it cond vs) ρ = compM pg elt tg cond vs (evI pg it ρ) ρ := by
  show (if _ then _ else _) = _
  rw [if_pos h]
  rfl
theorem compL_list {bind : D → En → Option En} {cond : En → M Bool} {elt : En → M R} {ρ : En} : ∀ (ds gs : List D), gs.length = ds.length → (∀ (i : Nat) (d y : D), ds[i]? = some d → gs[i]? = some y → ∃ ρ1, bind d ρ = some ρ1 ∧ cond ρ1 = .ok true ∧ elt ρ1 = .ok (.val true y)) → compL bind cond elt ρ ds = .ok (gs.map (.val true))
  | [], [], _, _ => rfl
  | [], g :: gs, h, _ => by simp at h
  | d :: ds, [], h, _ => by simp at h
  | d :: ds, g :: gs, h, k => by
    obtain ⟨ρ1, h1, h2, h3⟩ := k 0 d g rfl rfl
    have ih := compL_list (bind := bind) (cond := cond) (elt := elt) (ρ := ρ) ds gs (by simpa using h) (fun i d y h1 h2 => k (i + 1) d y (by simpa using h1) (by simpa using h2))
    unfold compL
    rw [h1]
    show (cond ρ1 >>= fun b => if b = true then elt ρ1 >>= fun r => compL bind cond elt ρ ds >>= fun rs => M.ok (r :: rs) else compL bind cond elt ρ ds) = _
    rw [h2, M.bind_ok, if_pos rfl, h3, M.bind_ok, ih, M.bind_ok]
    rfl
theorem ros_vals (gs : List D) : ros (gs.map (.val true)) = some (gs.map .sh) := by
  induction gs with
  | nil => rfl
  | cons g gs ih =>
    show (match (R.val true g).o, ros (gs.map (.val true)) with | some o, some os => some (o :: os) | _, _ => none) = _
    rw [R_o_true, ih]
    rfl
theorem mkLst_vals (gs : List D) : mkLst (gs.map (.val true)) = .own (.lst (gs.map .sh)) := by
  unfold mkLst
  rw [ros_vals]
theorem compM_list {pg : Pg} {elt : E} {tg : Tg} {cond : Bo} {vs : List Nat} {ρ : En} {ds gs : List D} (hz : ds.length ≤ sizeLine) (hl : gs.length = ds.length) (k : ∀ (i : Nat) (d y : D), ds[i]? = some d → gs[i]? = some y → ∃ ρ1, bindD tg d (wipeEn ρ vs) = some ρ1 ∧ evBo pg cond ρ1 = .ok true ∧ evE pg elt ρ1 = .ok (.val true y)) :
    compM pg elt tg cond vs (.ok (true, ds)) ρ = .ok (.own (.lst (gs.map .sh))) := by
  unfold compM compV
  rw [M.bind_ok]
  show (if ds.length ≤ sizeLine then _ else _) = _
  rw [if_pos hz]
  show (match compL (bindD tg) (fun ρ => evBo pg cond ρ) (fun ρ => evE pg elt ρ) (wipeEn ρ vs) ds with | .ok rs => M.ok (mkLst rs) | _ => .stuck) = _
  rw [compL_list ds gs hl k]
  show M.ok (mkLst (gs.map (.val true))) = _
  rw [mkLst_vals]
theorem choose_list {α : Type} {Q : Nat → α → Prop} : ∀ n : Nat, (∀ i, i < n → ∃ x, Q i x) → ∃ l : List α, l.length = n ∧ ∀ i x, l[i]? = some x → Q i x
  | 0, _ => ⟨[], rfl, fun i x h => by simp at h⟩
  | n + 1, h => by
    obtain ⟨l, h1, h2⟩ := choose_list n fun i hi => h i (by omega)
    obtain ⟨x, hx⟩ := h n (Nat.lt_succ_self n)
    refine ⟨l ++ [x], by simp [h1], fun i y hy => ?_⟩
    by_cases hi : i < n
    · rw [List.getElem?_append_left (by omega)] at hy
      exact h2 i y hy
    · rw [List.getElem?_append_right (by omega)] at hy
      have : i - l.length = 0 := by
        have := (List.getElem?_eq_some_iff.mp hy).1
        simp at this
        omega
      rw [this] at hy
      have e : i = n := by omega
      subst e
      cases hy
      exact hx
/-! lists of fractions -/
def fDs (l : List (Int × Int)) : List D := l.map frD
@[simp] theorem fDs_len (l : List (Int × Int)) : (fDs l).length = l.length := List.length_map _
theorem fDs_get (l : List (Int × Int)) (j : Nat) : (fDs l)[j]? = (l[j]?).map frD := List.getElem?_map ..
def fl (l : List (Int × Int)) (k : Nat) : Int × Int := l.getD k (0, 1)
theorem subR_fs {l : List (Int × Int)} {k : Nat} (h : k < l.length) : subR (.val true (.lst (fDs l))) (k : Int) = some (.val true (frD (fl l k))) := by
  show (atI (fDs l) (k : Int)).map _ = _
  have e : atI (fDs l) (k : Int) = some (frD (fl l k)) := by
    unfold atI ixN fl
    rw [fDs_len]
    simp [h, fDs_get]
  rw [e]
  rfl
theorem fl_get {l : List (Int × Int)} {k : Nat} (h : k < l.length) : l[k]? = some (fl l k) := by
  unfold fl
  rw [List.getD_eq_getElem?_getD, List.getElem?_eq_getElem h]
  rfl
/-! equal lists -/
theorem fr_p (x : Int × Int) : (frD x).p = some (.tuple [.int x.1, .int x.2]) := by simp [frD, D.p, dps]
theorem fs_p (l : List (Int × Int)) : dps (fDs l) = some (l.map fun x => .tuple [.int x.1, .int x.2]) := by
  induction l with
  | nil => rfl
  | cons x l ih =>
    show (match (frD x).p, dps (fDs l) with | some a, some as => some (a :: as) | _, _ => none) = _
    rw [fr_p, ih]
    rfl
theorem fs_lay (l : List (Int × Int)) : PyData.canLayAll0 (l.map fun x => .tuple [.int x.1, .int x.2]) = true ∧ PyData.depthAll (l.map fun x => .tuple [.int x.1, .int x.2]) ≤ 1 := by
  induction l with
  | nil => exact ⟨by simp [PyData.canLayAll0], by simp [PyData.depthAll]⟩
  | cons x l ih =>
    refine ⟨?_, ?_⟩
    · simp only [List.map_cons, PyData.canLayAll0, PyData.canLay0, Bool.and_self, Bool.true_and]
      exact ih.1
    · simp only [List.map_cons, PyData.depthAll, PyData.depth]
      have := ih.2
      omega
theorem eq_fs (c c' : Bool) (l : List (Int × Int)) : prim2 (pCmp .Eq) (.ok (.val c (.lst (fDs l)))) (.ok (.val c' (.lst (fDs l)))) = .ok (.val true (.bl true)) := by
  have hp : (D.lst (fDs l)).p = some (.list (l.map fun x => .tuple [.int x.1, .int x.2])) := by
    simp only [D.p, fs_p]
    rfl
  have hs : SeqAt.shaped (.list (l.map fun x => .tuple [.int x.1, .int x.2])) = true := by
    unfold SeqAt.shaped
    refine Bool.and_eq_true_iff.mpr ⟨?_, decide_eq_true ?_⟩
    · rw [PyData.canLay0]
      exact (fs_lay l).1
    · rw [PyData.depth]
      exact Nat.le_trans (Nat.add_le_add_right (fs_lay l).2 1) (by decide)
  have hq : PyData.eqv (.list (l.map fun x => .tuple [.int x.1, .int x.2])) (.list (l.map fun x => .tuple [.int x.1, .int x.2])) = true := SeqAt.eqv_refl _ (by rw [PyData.canLay0]; exact (fs_lay l).1)
  have e : pEq (.lst (fDs l)) (.lst (fDs l)) = some (.sc (.bl true)) := by
    unfold pEq eqD
    rw [if_neg (by simp [scD]), hp]
    show Option.map _ (if (SeqAt.shaped _ && SeqAt.shaped _) = true then some (PyData.eqv _ _) else none) = _
    rw [if_pos (by rw [hs]; rfl), hq]
    rfl
  exact prim2_ok (pCmp .Eq) (.val c (.lst (fDs l))) (.val c' (.lst (fDs l))) e
end TL

namespace TL
open PySem PySem.Spec L2
theorem evE_glob {P : PgD} {n k : Nat} {d : D} {ρ : En} (h : P.cst k = some d) : evE (pgN P n) (.glob k) ρ = .ok (.val true d) := by
  show (match P.cst k with | some d => M.ok (R.val true d) | none => .stuck) = _
  rw [h]
@[simp] theorem evBo_none {pg : Pg} {ρ : En} : evBo pg .none ρ = .ok true := rfl
@[simp] theorem listN {ds : List D} : primN (pBlt .list) (.ok [.val true (.lst ds)]) = .ok (.own (.lst (ds.map .sh))) := rfl
theorem cross2 {P Q U V M1 M2 o1 o2 S1 S2 : Int} (hQ : Q * M2 ≠ 0) (h1 : P * V = U * Q) (h2 : M1 * o2 = o1 * M2) (h3 : S1 * (Q * M2) = (P * M2 + M1 * Q) * S2) : S1 * (V * o2) = (U * o2 + o1 * V) * S2 := by
  have key : (S1 * (V * o2)) * (Q * M2) = ((U * o2 + o1 * V) * S2) * (Q * M2) := by grind
  exact Int.eq_of_mul_eq_mul_right hQ key
/-- x is the quotient of p by q -/
def Is (x : Int × Int) (p q : Int) : Prop := x.1 * q = p * x.2
theorem is_add {x y : Int × Int} {m : Nat} {a b c d : Int} (hx : Fr m x) (hy : Fr m y) (h1 : Is x a b) (h2 : Is y c d) : Is (addF x y) (a * d + c * b) (b * d) := by
  have e : (addF x y).1 * (x.2 * y.2) = (x.1 * y.2 + y.1 * x.2) * (addF x y).2 := (low_ok _ _ (ne_mul hx hy)).2.2.1
  have := cross2 (S1 := (addF x y).1) (S2 := (addF x y).2) (ne_mul hx hy) h1 h2 e
  exact this
theorem is_mul {x y : Int × Int} {m : Nat} {a b c d : Int} (hx : Fr m x) (hy : Fr m y) (h1 : Is x a b) (h2 : Is y c d) : Is (mulF x y) (a * c) (b * d) := by
  have e : (mulF x y).1 * (x.2 * y.2) = x.1 * y.1 * (mulF x y).2 := (low_ok _ _ (ne_mul hx hy)).2.2.1
  unfold Is at *
  have key : ((mulF x y).1 * (b * d)) * (x.2 * y.2) = ((a * c) * (mulF x y).2) * (x.2 * y.2) := by grind
  exact Int.eq_of_mul_eq_mul_right (ne_mul hx hy) key
theorem is_self (x : Int × Int) : Is x x.1 x.2 := rfl
/-! dot -/
def dotF (a b : List (Int × Int)) : Nat → Int × Int
  | 0 => (0, 1)
  | k + 1 => addF (dotF a b k) (mulF (fl a k) (fl b k))
def szd (m : Nat) : Nat → Nat
  | 0 => m + m
  | k + 1 => szd m k + szd m k + 1
theorem szd_ge (m : Nat) : ∀ k, m + m ≤ szd m k
  | 0 => Nat.le_refl _
  | k + 1 => by have := szd_ge m k; show _ ≤ szd m k + szd m k + 1; omega
def AllFr (m : Nat) (l : List (Int × Int)) : Prop := ∀ x ∈ l, Fr m x
theorem AllFr.fl {m : Nat} {l : List (Int × Int)} (h : AllFr m l) {k : Nat} (hk : k < l.length) : Fr m (fl l k) := h _ (List.mem_of_getElem? (fl_get hk))
theorem fr01 {m : Nat} (h : 1 ≤ m) : Fr m (0, 1) := Fr.mono (n := 1) ⟨by decide, by decide, by decide, by decide⟩ h
theorem dot_fr {m : Nat} (hm : 1 ≤ m) {a b : List (Int × Int)} (ha : AllFr m a) (hb : AllFr m b) : ∀ k, k ≤ a.length → k ≤ b.length → Fr (szd m k) (dotF a b k)
  | 0, _, _ => fr01 (by show 1 ≤ m + m; omega)
  | k + 1, h1, h2 => add_fr (dot_fr hm ha hb k (by omega) (by omega)) ((mul_fr (ha.fl (by omega)) (hb.fl (by omega))).mono (szd_ge m k))
theorem szd_mono (m : Nat) : ∀ k j, k ≤ j → szd m k ≤ szd m j := fun k j h => by
  induction h with
  | refl => exact Nat.le_refl _
  | step h ih => exact Nat.le_trans ih (by show _ ≤ szd m _ + szd m _ + 1; omega)
section
variable {P : PgD}
theorem ev_dot (h : P.dfs 32 = some df_dot) (h7 : P.dfs 7 = some df_add) (h9 : P.dfs 9 = some df_mul) (h0 : P.dfs 0 = some df_ratio) (hz : P.cst 2 = some (.tup [.int 0, .int 1])) (n : Nat) (a b : List (Int × Int)) {m : Nat} (hm : 1 ≤ m) (ha : AllFr m a) (hb : AllFr m b) (hab : a.length ≤ b.length) (hl : a.length < 2 ^ 60) (hs : szd m a.length ≤ 4000) :
    callN P (n + 3) 32 [.lst (fDs a), .lst (fDs b)] = .ok (.sh (frD (dotF a b a.length))) := by
  rw [callN_eq h rfl]
  have rm : rngOk (a.length : Int) = true := rng_ok (by omega)
  obtain ⟨ρ', e1, x, e2⟩ := loopF_inv (pg := pgN P (n + 2)) (tg := .name 3) (b := df_dot_b1) (fun k ρ => ∃ x, ρ = [some (.sh (.lst (fDs a))), some (.sh (.lst (fDs b))), some (.sh (frD (dotF a b k))), x]) (ds := rngD 0 a.length) (ρ := [some (.sh (.lst (fDs a))), some (.sh (.lst (fDs b))), some (.sh (.tup [.int 0, .int 1])), none]) ⟨none, rfl⟩ (fun i d ρ hd ⟨x, hI⟩ => by
    obtain ⟨rfl, hi⟩ := rng_get hd
    subst hI
    refine ⟨_, _, bindD_name (by simp), .inl ?_, sI i, rfl⟩
    have g1 := subR_fs (l := a) (k := i) hi
    have g2 := subR_fs (l := b) (k := i) (by omega)
    have fd := dot_fr hm ha hb i (by omega) (by omega)
    have fm := mul_fr (ha.fl hi) (hb.fl (k := i) (by omega))
    have sz : szd m (i + 1) ≤ 4000 := Nat.le_trans (szd_mono m (i + 1) a.length (by omega)) hs
    have sz2 : szd m i + szd m i + 1 ≤ 4000 := sz
    have sg := szd_ge m i
    have c9 := call_sh (P := P) (n := n + 2) (k := 9) (d := df_mul) (rs := [.val true (frD (fl a i)), .val true (frD (fl b i))]) h9 rfl rfl (ev_mul (n := n) h9 h0 (ha.fl hi) (hb.fl (k := i) (by omega)) (by omega)) rfl
    have c7 := call_sh (P := P) (n := n + 2) (k := 7) (d := df_add) (rs := [.val true (frD (dotF a b i)), .val true (frD (mulF (fl a i) (fl b i)))]) h7 rfl rfl (ev_add (n := n) h7 h0 fd (fm.mono sg) (by omega)) rfl
    simp -implicitDefEqProofs [df_dot_b1, g1, g2, c9, c7]
    rfl)
  rw [rng_len] at e2
  subst e2
  simp -implicitDefEqProofs [df_dot, enOf, evE_glob hz, rm, e1]
theorem ev_scale (h : P.dfs 33 = some df_scale) (h9 : P.dfs 9 = some df_mul) (h0 : P.dfs 0 = some df_ratio) (n : Nat) (t : Int × Int) (a : List (Int × Int)) {m : Nat} (ht : Fr m t) (ha : AllFr m a) (hl : a.length ≤ sizeLine) (hm : m ≤ 4000) :
    callN P (n + 3) 33 [frD t, .lst (fDs a)] = .ok (.lst ((fDs (a.map (mulF t))).map .sh)) := by
  rw [callN_eq h rfl]
  have hc := compM_list (pg := pgN P (n + 2)) (elt := .call 9 (.var 0) (.cons (.var 2) .nil)) (tg := .name 2) (cond := .none) (vs := [2]) (ρ := [some (.sh (frD t)), some (.sh (.lst (fDs a))), none]) (ds := fDs a) (gs := fDs (a.map (mulF t))) (by rw [fDs_len]; exact hl) (by simp) (fun i d y hd hy => by
    rw [fDs_get] at hd hy
    rw [List.getElem?_map] at hy
    cases e : a[i]? with
    | none => rw [e] at hd; cases hd
    | some z =>
      rw [e] at hd hy
      cases hd
      cases hy
      have c9 := call_sh (P := P) (n := n + 2) (k := 9) (d := df_mul) (rs := [.val true (frD t), .val true (frD z)]) h9 rfl rfl (ev_mul (n := n) h9 h0 ht (ha z (List.mem_of_getElem? e)) hm) rfl
      refine ⟨[some (.sh (frD t)), some (.sh (.lst (fDs a))), some (.sh (frD z))], rfl, rfl, ?_⟩
      simp -implicitDefEqProofs [c9])
  simp -implicitDefEqProofs [df_scale, enOf, evE_comp, hc, Tg.slots]
theorem ev_add_scaled (h : P.dfs 34 = some df_add_scaled) (h7 : P.dfs 7 = some df_add) (h9 : P.dfs 9 = some df_mul) (h0 : P.dfs 0 = some df_ratio) (n : Nat) (a b : List (Int × Int)) (t : Int × Int) {m : Nat} (ht : Fr m t) (ha : AllFr m a) (hb : AllFr m b) (hab : a.length ≤ b.length) (hl : a.length ≤ 1000000) (hm : m ≤ 2000) :
    callN P (n + 3) 34 [.lst (fDs a), frD t, .lst (fDs b)] = .ok (.lst ((fDs ((List.range a.length).map fun i => addF (fl a i) (mulF t (fl b i)))).map .sh)) := by
  rw [callN_eq h rfl]
  have rm : rngOk (a.length : Int) = true := rng_ok (by omega)
  have hc := compM_list (pg := pgN P (n + 2)) (elt := .call 7 (.idx (.var 0) (.var 3)) (.cons (.call 9 (.var 1) (.cons (.idx (.var 2) (.var 3)) .nil)) .nil)) (tg := .name 3) (cond := .none) (vs := [3]) (ρ := [some (.sh (.lst (fDs a))), some (.sh (frD t)), some (.sh (.lst (fDs b))), none]) (ds := rngD 0 a.length) (gs := fDs ((List.range a.length).map fun i => addF (fl a i) (mulF t (fl b i)))) (by rw [rng_len, sizeLine_eq]; omega) (by simp [rng_len]) (fun i d y hd hy => by
    obtain ⟨rfl, hi⟩ := rng_get hd
    rw [fDs_get, List.getElem?_map, List.getElem?_range hi] at hy
    cases hy
    have g1 := subR_fs (l := a) (k := i) hi
    have g2 := subR_fs (l := b) (k := i) (by omega)
    have c9 := call_sh (P := P) (n := n + 2) (k := 9) (d := df_mul) (rs := [.val true (frD t), .val true (frD (fl b i))]) h9 rfl rfl (ev_mul (n := n) h9 h0 ht (hb.fl (k := i) (by omega)) (by omega)) rfl
    have c7 := call_sh (P := P) (n := n + 2) (k := 7) (d := df_add) (rs := [.val true (frD (fl a i)), .val true (frD (mulF t (fl b i)))]) h7 rfl rfl (ev_add (n := n) h7 h0 ((ha.fl hi).mono (by omega)) (mul_fr ht (hb.fl (k := i) (by omega))) (by omega)) rfl
    refine ⟨[some (.sh (.lst (fDs a))), some (.sh (frD t)), some (.sh (.lst (fDs b))), some (.sh (.int (0 + (i : Int))))], rfl, rfl, ?_⟩
    simp -implicitDefEqProofs [c9, c7, g1, g2])
  simp -implicitDefEqProofs [df_add_scaled, enOf, evE_comp, hc, Tg.slots, rm]
end
end TL

namespace TL
open PySem PySem.Spec L2
section
variable {c c' : Bool} {x y z : Str}
@[simp] theorem evE_slice (pg : Pg) (ρ : En) (a : E) (lo hi : Eo) : evE pg (.slice a lo hi) ρ = evSl (evE pg a ρ) (evEo pg lo ρ) (evEo pg hi ρ) := rfl
@[simp] theorem evEo_none (pg : Pg) (ρ : En) : evEo pg .none ρ = .ok none := rfl
@[simp] theorem evEo_some (pg : Pg) (ρ : En) (e : E) : evEo pg (.some e) ρ = partV (evE pg e ρ) := rfl
@[simp] theorem partV_int {i : Int} : partV (.ok (.val c (.int i))) = .ok (some i) := rfl
@[simp] theorem addS (h : x.length + y.length ≤ sizeLine) : prim2 (pBin .Add) (.ok (.val c (.str x))) (.ok (.val c' (.str y))) = .ok (.val true (.str (x ++ y))) := by
  show (match (if x.length + y.length ≤ sizeLine then some (PV.sc (.str (x ++ y))) else none) with | some pv => M.ok (mkPV _ pv) | none => .stuck) = _
  rw [if_pos h]
  rfl
@[simp] theorem strN {i : Int} (h : i.natAbs.log2 < 1920) : primN (pBlt .str) (.ok [.val c (.int i)]) = .ok (.val true (.str (toString i))) := by
  show (match (if i.natAbs.log2 < 1920 then some (PV.sc (.str (toString i))) else none) with | some pv => M.ok (mkPV _ pv) | none => .stuck) = _
  rw [if_pos h]
  rfl
theorem intS {n : Int} (h : intText? x = some n) (h2 : x.length ≤ 640) : primN (pBlt .int) (.ok [.val c (.str x)]) = .ok (.val true (.int n)) := by
  refine primN_ok (pBlt .int) [.val c (.str x)] (pv := .sc (.int n)) ?_
  show (match intText? x with | some n => if x.length ≤ 640 then some (PV.sc (.int n)) else none | none => none) = _
  rw [h]
  show (if x.length ≤ 640 then _ else _) = _
  rw [if_pos h2]
@[simp] theorem lenS (h : x.length ≤ sizeLine) : primN (pBlt .len) (.ok [.val c (.str x)]) = .ok (.val true (.int x.length)) := by
  show (match (if x.length ≤ sizeLine then some (PV.sc (.int x.length)) else none) with | some pv => M.ok (mkPV _ pv) | none => .stuck) = _
  rw [if_pos h]
  rfl
@[simp] theorem eqS : prim2 (pCmp .Eq) (.ok (.val c (.str x))) (.ok (.val c' (.str y))) = .ok (.val true (.bl (decide (x = y)))) := rfl
@[simp] theorem neS : prim2 (pCmp .NotEq) (.ok (.val c (.str x))) (.ok (.val c' (.str y))) = .ok (.val true (.bl (!decide (x = y)))) := rfl
@[simp] theorem R_clean_str : (R.val c (.str x)).clean = true := by cases c <;> rfl
theorem splitS (h : y.length ≠ 0) (h2 : x.length + 2 ≤ sizeLine) : evM1 (pMth .split) (.ok (.val c (.str x))) (.ok (.val c' (.str y))) = .ok (.own (.lst (((Txt.split x y).map D.str).map .sh))) := by
  show (match (if ((y.length != 0) && decide (x.length + 2 ≤ sizeLine)) = true then some (PV.new ((Txt.split x y).map .str)) else none) with | some pv => M.ok (mkPV ((R.val c (.str x)).clean && (R.val c' (.str y)).clean) pv) | none => .stuck) = _
  rw [if_pos (by simp [h, h2]), R_clean_str, R_clean_str]
  rfl
@[simp] theorem startsS : evM1 (pMth .starts) (.ok (.val c (.str x))) (.ok (.val c' (.str y))) = .ok (.val true (.bl (Txt.startswith x y))) := rfl
theorem sliceS {lo hi : Option Int} (h : x.length ≤ sizeLine) : evSl (.ok (.val c (.str x))) (.ok lo) (.ok hi) = .ok (.val true (.str (cutS x lo hi))) := by
  show (match (if x.length ≤ sizeLine then some (PV.sc (.str (cutS x lo hi))) else none) with | some pv => M.ok (mkPV _ pv) | none => .stuck) = _
  rw [if_pos h]
  rfl
theorem chainLe {i j k : Int} {c1 c2 c3 : Bool} : chainV (pCmp .LtE) (pCmp .LtE) (.ok (.val c1 (.int i))) (.ok (.val c2 (.int j))) (.ok (.val c3 (.int k))) = .ok (.val true (.bl (decide (i ≤ j) && decide (j ≤ k)))) := by
  unfold chainV
  rw [M.bind_ok, M.bind_ok]
  show (match some (PV.sc (.bl (decide (i ≤ j)))) with
    | some (.sc (.bl true)) => (M.ok (R.val c3 (.int k)) >>= fun z => match pCmp .LtE (.int j) z.d with
      | some (.sc k) => M.ok (R.val true k)
      | _ => .stuck)
    | some (.sc (.bl false)) => M.ok (R.val true (.bl false))
    | _ => .stuck) = _
  cases decide (i ≤ j) <;> rfl
@[simp] theorem itemsS : itemsD (.str x) = some (chars x) := rfl
theorem notInS {n : Nat} : prim2 (pCmp .NotIn) (.ok (.val c (.str ⟨#[n]⟩))) (.ok (.val c' (.str y))) = .ok (.val true (.bl (!decide (n ∈ y.cps.toList)))) := rfl
end
/-! ints as texts -/
def iL (i : Int) : List Nat := if i < 0 then 45 :: numL i.natAbs else numL i.natAbs
theorem str_int (i : Int) : ((toString i : String) : Str) = SX.S (iL i) := by
  cases i with
  | ofNat n =>
    have h : ¬ ((Int.ofNat n) < 0) := Int.not_lt.mpr (Int.natCast_nonneg n)
    unfold iL
    rw [if_neg h]
    have := tl_num n
    exact ext_tl this
  | negSucc n =>
    have h : (Int.negSucc n) < 0 := Int.negSucc_lt_zero n
    unfold iL
    rw [if_pos h]
    refine ext_tl ?_
    show (Str.ofString (toString (Int.negSucc n))).cps.toList = 45 :: numL (n + 1)
    have e : toString (Int.negSucc n) = "-" ++ toString ((n + 1 : Nat) : Int) := rfl
    rw [e, PyProof.Rows.signs_ofString]
    have t := tl_num (n + 1)
    have t2 : (Str.ofString (toString ((n + 1 : Nat) : Int))).cps.toList = numL (n + 1) := t
    rw [PyProof.Rows.signs_ofString] at t2
    rw [String.toList_append, List.map_append, t2]
    rfl
end TL

namespace TL
open PySem PySem.Spec L2
theorem slash : ("/" : Str) = SX.S [47] := by decide
theorem dash : ("-" : Str) = SX.S [45] := by decide
theorem one_s : ("1" : Str) = SX.S [49] := by decide
theorem digs : ("0123456789" : Str).cps.toList = [48, 49, 50, 51, 52, 53, 54, 55, 56, 57] := by decide
/-- a fraction's written form -/
def txt (x : Int × Int) : List Nat := if x.2 = 1 then iL x.1 else iL x.1 ++ 47 :: iL x.2
theorem iL_len {i : Int} (h : i.natAbs < 10 ^ 60) : (iL i).length ≤ 61 := by
  have := numL_len (n := i.natAbs) (k := 60) (by decide) h
  unfold iL
  split
  · rw [List.length_cons]; omega
  · omega
theorem txt_len {x : Int × Int} (h1 : x.1.natAbs < 10 ^ 60) (h2 : x.2.natAbs < 10 ^ 60) : (txt x).length ≤ 123 := by
  have a := iL_len h1
  have b := iL_len h2
  unfold txt
  split
  · omega
  · rw [List.length_append, List.length_cons]; omega
theorem log60 {i : Int} (h : i.natAbs < 10 ^ 60) : i.natAbs.log2 < 1920 := by
  have h2 : i.natAbs < 2 ^ 200 := Nat.lt_trans h (by decide +kernel)
  have := lg_of h2 (by decide)
  omega
theorem ev_format {P : PgD} (h : P.dfs 19 = some df_format_ratio) (n : Nat) (x : Int × Int) (h1 : x.1.natAbs < 10 ^ 60) (h2 : x.2.natAbs < 10 ^ 60) : callN P (n + 1) 19 [frD x] = .ok (.sh (.str (SX.S (txt x)))) := by
  rw [callN_eq h rfl]
  have l1 := log60 h1
  have l2 := log60 h2
  have a := iL_len h1
  have b := iL_len h2
  by_cases hq : x.2 = 1
  · have e : txt x = iL x.1 := if_pos hq
    rw [e]
    simp -implicitDefEqProofs [df_format_ratio, enOf, hq, l1]
    exact str_int x.1
  · have e : txt x = iL x.1 ++ 47 :: iL x.2 := if_neg hq
    have z1 : (SX.S (iL x.1)).length + (SX.S [47]).length ≤ sizeLine := by
      rw [SX.S_len, SX.S_len, sizeLine_eq]
      simp only [List.length_cons, List.length_nil]
      omega
    have z2 : (SX.S (iL x.1 ++ [47])).length + (SX.S (iL x.2)).length ≤ sizeLine := by
      rw [SX.S_len, SX.S_len, List.length_append, sizeLine_eq]
      simp only [List.length_cons, List.length_nil]
      omega
    have c1 : ∀ c c', prim2 (pBin .Add) (.ok (.val c (.str (SX.S (iL x.1))))) (.ok (.val c' (.str (SX.S [47])))) = .ok (.val true (.str (SX.S (iL x.1 ++ [47])))) := fun c c' => by
      rw [addS z1, SX.S_cat]
    have c2 : ∀ c c', prim2 (pBin .Add) (.ok (.val c (.str (SX.S (iL x.1 ++ [47]))))) (.ok (.val c' (.str (SX.S (iL x.2))))) = .ok (.val true (.str (SX.S (iL x.1 ++ [47] ++ iL x.2)))) := fun c c' => by
      rw [addS z2, SX.S_cat]
    have e2 : txt x = iL x.1 ++ [47] ++ iL x.2 := by rw [e]; simp
    rw [e2]
    rw [evSs_cut (pgN P n) df_format_ratio.body 1 _ [some (.sh (frD x))] (by simp -implicitDefEqProofs [df_format_ratio, enOf, hq])]
    show ouM (evSs (pgN P n) (.cons (.ret (.bin .Add (.bin .Add (.blt .str (.idx (.var 0) (.int 0)) .nil) (.str "/")) (.blt .str (.idx (.var 0) (.int 1)) .nil))) .nil) [some (.sh (frD x))]) = _
    rw [slash]
    simp -implicitDefEqProofs only [evSs_cons, evSs_nil, evS_ret, evE_bin, evE_blt, evE_idx, evE_var, evE_int, evE_str, evVar_sh, evIdx_eq, subR_fr0, subR_fr1, of_some, evEs_nil, consM_ok, strN, l1, l2, str_int, c1, c2, retM_ok, retR_val, seqM_ret, ouM_ret', R_clean_true]
/-! is_number -/
theorem chars_S (ds : List Nat) : chars (SX.S ds) = ds.map fun c => .str ⟨#[c]⟩ := rfl
theorem num_body {P : PgD} (hc : P.cst 0 = some (.str "0123456789")) (n : Nat) (a : Option O) (c : Nat) (h : 48 ≤ c ∧ c ≤ 57) : evSs (pgN P n) df_is_number_b1 [a, some (.sh (.str ⟨#[c]⟩))] = .nx [a, some (.sh (.str ⟨#[c]⟩))] := by
  have hm : c ∈ ("0123456789" : Str).cps.toList := by
    rw [digs]
    simp only [List.mem_cons, List.not_mem_nil, or_false]
    omega
  simp -implicitDefEqProofs [df_is_number_b1, evE_glob hc, notInS, hm]
theorem num_loop {P : PgD} (hc : P.cst 0 = some (.str "0123456789")) (n : Nat) (a : Option O) : ∀ (ds : List Nat) (x : Option O), NumText.AllDigits ds → ∃ y, loopF (pgN P n) (.name 1) df_is_number_b1 (ds.map fun c => .str ⟨#[c]⟩) [a, x] = .nx [a, y]
  | [], x, _ => ⟨x, rfl⟩
  | c :: ds, x, h => by
    obtain ⟨y, e⟩ := num_loop hc n a ds (some (.sh (.str ⟨#[c]⟩))) h.tail
    exact ⟨y, (loopF_nx rfl (num_body hc n a c h.head)).trans e⟩
theorem ev_is_number {P : PgD} (h : P.dfs 20 = some df_is_number) (hc : P.cst 0 = some (.str "0123456789")) (hm : P.cst 1 = some (.int 60)) (n : Nat) (ds : List Nat) (hd : NumText.AllDigits ds) (h1 : 1 ≤ ds.length) (h2 : ds.length ≤ 60) : callN P (n + 1) 20 [.str (SX.S ds)] = .ok (.sh (.bl true)) := by
  rw [callN_eq h rfl]
  have hl : (SX.S ds).length ≤ sizeLine := by rw [SX.S_len, sizeLine_eq]; omega
  have b1 : (1 : Int) ≤ ((SX.S ds).length : Int) := by rw [SX.S_len]; omega
  have b2 : ((SX.S ds).length : Int) ≤ 60 := by rw [SX.S_len]; omega
  obtain ⟨y, e⟩ := num_loop hc n (some (.sh (.str (SX.S ds)))) ds none hd
  have e : loopF (pgN P n) (.name 1) df_is_number_b1 (chars (SX.S ds)) [some (.sh (.str (SX.S ds))), none] = .nx [some (.sh (.str (SX.S ds))), y] := e
  have ch : ∀ c1 c2 c3, chainV (pCmp .LtE) (pCmp .LtE) (.ok (.val c1 (.int 1))) (.ok (.val c2 (.int ((SX.S ds).length : Int)))) (.ok (.val c3 (.int 60))) = .ok (.val true (.bl true)) := fun c1 c2 c3 => by
    rw [chainLe, decide_eq_true b1, decide_eq_true b2]
    rfl
  simp -implicitDefEqProofs [df_is_number, enOf, evE_glob hm, hl, ch, e]
end TL

namespace TL
open PySem PySem.Spec L2
theorem iL_neg {i : Int} (h : i < 0) : iL i = 45 :: numL i.natAbs := if_pos h
theorem iL_pos {i : Int} (h : ¬ i < 0) : iL i = numL i.natAbs := if_neg h
theorem iL_free (i : Int) : 47 ∉ iL i := fun hm => by
  unfold iL at hm
  split at hm
  · rcases List.mem_cons.mp hm with e | e
    · cases e
    · exact numL_free (by omega) e
  · exact numL_free (by omega) hm
theorem split_txt (x : Int × Int) : Txt.split (SX.S (txt x)) (SX.S [47]) = if x.2 = 1 then [SX.S (iL x.1)] else [SX.S (iL x.1), SX.S (iL x.2)] := by
  rw [SX.split_S (by simp) (by decide)]
  unfold txt
  split
  · have := SX.spl_join (c := 47) (sep := []) (parts := [iL x.1]) (by simp) (fun p hp => by rw [List.mem_singleton.mp hp]; exact iL_free _)
    have e : joinL [47] [iL x.1] = iL x.1 := rfl
    rw [e] at this
    rw [this]
    rfl
  · have := SX.spl_join (c := 47) (sep := []) (parts := [iL x.1, iL x.2]) (by simp) (fun p hp => by
      rcases List.mem_cons.mp hp with rfl | hp
      · exact iL_free _
      · rw [List.mem_singleton.mp hp]; exact iL_free _)
    have e : joinL [47] [iL x.1, iL x.2] = iL x.1 ++ 47 :: iL x.2 := rfl
    rw [e] at this
    rw [this]
    rfl
theorem starts_S {a b : Nat} {l : List Nat} : Txt.startswith (SX.S (a :: l)) (SX.S [b]) = decide (a = b) := by
  unfold Txt.startswith
  have h1 : (0 + (SX.S [b]).length ≤ (SX.S (a :: l)).length) := by rw [SX.S_len, SX.S_len]; simp
  simp only [decide_eq_true h1, Bool.true_and]
  by_cases e : a = b
  · subst e
    rw [decide_eq_true rfl]
    simp [Builtin.Str.subAt, SX.S, Str.length]
  · rw [decide_eq_false e]
    simp [Builtin.Str.subAt, SX.S, Str.length, e]
theorem cut_tail (a : Nat) (l : List Nat) : cutS (SX.S (a :: l)) (some 1) none = SX.S l := by
  unfold cutS
  have e1 : HT.sIx (SX.S (a :: l)).length 0 (some 1) = 1 := by
    have := HT.sIx_nat (SX.S (a :: l)).length 0 1
    rw [show ((1 : Nat) : Int) = 1 from rfl] at this
    rw [this, SX.S_len]
    simp
  rw [e1, HT.sIx_none, SX.S_len]
  show (⟨((a :: l).drop 1 |>.take ((a :: l).length - 1)).toArray⟩ : Str) = _
  simp
theorem int_numL {n : Nat} (h : (numL n).length ≤ 640) : intText? (SX.S (numL n)) = some (n : Int) := by
  have := intText_digits (x := SX.S (numL n)) (numL_digits n) (numL_ne n) (by rw [SX.S_len]; omega)
  rw [this]
  congr 2
  exact numL_val n
theorem low_self {x : Int × Int} (h1 : 1 ≤ x.2) (h2 : gcdI x.1 x.2 = 1) : low x.1 x.2 = x := by
  have g : Nat.gcd x.1.natAbs x.2.natAbs = 1 := by
    unfold gcdI at h2
    exact_mod_cast h2
  have hn : ¬ x.2 < 0 := by omega
  unfold low lowP lowQ
  rw [g, if_neg hn, if_neg hn]
  simp
end TL

namespace TL
open PySem PySem.Spec L2
theorem nL_len {i : Int} (h : i.natAbs < 10 ^ 60) : 1 ≤ (numL i.natAbs).length ∧ (numL i.natAbs).length ≤ 60 := by
  refine ⟨?_, numL_len (by decide) h⟩
  have := numL_ne i.natAbs
  cases e : numL i.natAbs with
  | nil => exact absurd e this
  | cons a l => simp
theorem starts_num {n : Nat} : Txt.startswith (SX.S (numL n)) (SX.S [45]) = false := by
  cases e : numL n with
  | nil => exact absurd e (numL_ne n)
  | cons a l =>
    rw [starts_S]
    refine decide_eq_false fun h => ?_
    have := numL_digits n a (by rw [e]; exact List.mem_cons_self)
    omega
/-- parse_ratio of a written form -/
theorem ev_parse {P : PgD} (h : P.dfs 21 = some df_parse_ratio) (h19 : P.dfs 19 = some df_format_ratio) (h20 : P.dfs 20 = some df_is_number) (h0 : P.dfs 0 = some df_ratio) (hc : P.cst 0 = some (.str "0123456789")) (hm : P.cst 1 = some (.int 60)) (n : Nat) (x : Int × Int) (hp : 1 ≤ x.2) (hg : gcdI x.1 x.2 = 1) (h1 : x.1.natAbs < 10 ^ 60) (h2 : x.2.natAbs < 10 ^ 60) :
    callN P (n + 2) 21 [.str (SX.S (txt x))] = .ok (.sh (frD x)) := by
  have tl := txt_len h1 h2
  have z1 : (SX.S (txt x)).length + 2 ≤ sizeLine := by rw [SX.S_len, sizeLine_eq]; omega
  have sp := splitS (c := true) (c' := true) (x := SX.S (txt x)) (y := SX.S [47]) (by rw [SX.S_len]; simp) z1
  rw [split_txt] at sp
  have l1 := nL_len h1
  have l2 := nL_len h2
  have z2 : (SX.S (iL x.1)).length ≤ sizeLine := by rw [SX.S_len, sizeLine_eq]; have := iL_len h1; omega
  have b2 : x.2.natAbs < 2 ^ 200 := Nat.lt_trans h2 (by decide +kernel)
  have rat := call_sh (P := P) (n := n + 1) (k := 0) (d := df_ratio) (rs := [.val true (.int x.1), .val true (.int x.2)]) h0 rfl rfl (ev_ratio' h0 n x.1 x.2 (m := 200) (by omega) b2 (by decide)) rfl
  rw [low_self hp hg] at rat
  have fmt := call_sh (P := P) (n := n + 1) (k := 19) (d := df_format_ratio) (rs := [.val true (frD x)]) h19 rfl rfl (ev_format h19 n x h1 h2) rfl
  have num := fun (ds : List Nat) (hd : NumText.AllDigits ds) (a : 1 ≤ ds.length) (b : ds.length ≤ 60) => call_sh (P := P) (n := n + 1) (k := 20) (d := df_is_number) (rs := [.val true (.str (SX.S ds))]) h20 rfl rfl (ev_is_number h20 hc hm n ds hd a b) rfl
  have n1 := num (numL x.1.natAbs) (numL_digits _) l1.1 l1.2
  have n2 := num (numL x.2.natAbs) (numL_digits _) l2.1 l2.2
  have n3 := num [49] (fun c hc => by rw [List.mem_singleton.mp hc]; decide) (by decide) (by decide)
  have i1 : ∀ c, primN (pBlt .int) (.ok [.val c (.str (SX.S (numL x.1.natAbs)))]) = .ok (.val true (.int (x.1.natAbs : Int))) := fun c => intS (int_numL (by omega)) (by rw [SX.S_len]; omega)
  have i2 : ∀ c, primN (pBlt .int) (.ok [.val c (.str (SX.S (numL x.2.natAbs)))]) = .ok (.val true (.int (x.2.natAbs : Int))) := fun c => intS (int_numL (by omega)) (by rw [SX.S_len]; omega)
  have i3 : ∀ c, primN (pBlt .int) (.ok [.val c (.str (SX.S [49]))]) = .ok (.val true (.int 1)) := fun c => by
    have := intS (c := c) (int_numL (n := 1) (by decide)) (by decide)
    exact this
  have q2 : ((x.2.natAbs : Nat) : Int) = x.2 := by omega
  rw [q2] at i2
  have e2 : iL x.2 = numL x.2.natAbs := iL_pos (by omega)
  have x20 : ¬ x.2 = 0 := by omega
  -- the sign
  have sg : ∃ ds : Str, ∃ b : Bool, ∃ p0 : Int, Txt.startswith (SX.S (iL x.1)) (SX.S [45]) = b ∧
      (if b = true then evSl (.ok (.val true (.str (SX.S (iL x.1))))) (.ok (some 1)) (.ok none) = .ok (.val true (.str (SX.S (numL x.1.natAbs)))) ∧ x.1 = -((x.1.natAbs : Nat) : Int) else iL x.1 = numL x.1.natAbs ∧ x.1 = ((x.1.natAbs : Nat) : Int)) := by
    by_cases hn : x.1 < 0
    · refine ⟨SX.S [], true, 0, ?_, ?_⟩
      · rw [iL_neg hn, starts_S]
        rfl
      · rw [if_pos rfl]
        refine ⟨?_, by omega⟩
        rw [sliceS z2, iL_neg hn, cut_tail]
    · refine ⟨SX.S [], false, 0, ?_, ?_⟩
      · rw [iL_pos hn, starts_num]
      · rw [if_neg (by decide)]
        exact ⟨iL_pos hn, by omega⟩
  obtain ⟨_, b, _, st, rest⟩ := sg
  rw [callN_eq h rfl]
  have fm2 : ∀ (a b : Str), decide (a = a) = true := fun a b => decide_eq_true rfl
  show ouM (evSs (pgN P (n + 1)) (.cons (.set 1 (.m1 .split (.var 0) (.str "/")) false) (.cons (.ite (.cmp .Gt (.blt .len (.var 1) .nil) (.int 2)) (.cons (.raiP 1 (.int 0)) .nil) .nil) (.cons (.set 2 (.idx (.var 1) (.int 0)) false) (.cons (.set 3 (.str "1") false) (.cons (.ite (.cmp .Eq (.blt .len (.var 1) .nil) (.int 2)) (.cons (.set 3 (.idx (.var 1) (.int 1)) false) .nil) .nil) (.cons (.set 4 (.var 2) false) (.cons (.ite (.val (.m1 .starts (.var 2) (.str "-"))) (.cons (.set 4 (.slice (.var 2) (.some (.int 1)) .none) false) .nil) .nil) (.cons (.ite (.or (.not (.val (.call 20 (.var 4) .nil))) (.cons (.not (.val (.call 20 (.var 3) .nil))) .nil)) (.cons (.raiP 1 (.int 0)) .nil) .nil) (.cons (.set 5 (.blt .int (.var 4) .nil) false) (.cons (.set 6 (.blt .int (.var 3) .nil) false) (.cons (.ite (.cmp .Eq (.var 6) (.int 0)) (.cons (.raiP 1 (.int 0)) .nil) .nil) (.cons (.ite (.val (.m1 .starts (.var 2) (.str "-"))) (.cons (.set 5 (.neg (.var 5)) false) .nil) .nil) (.cons (.set 7 (.call 0 (.var 5) (.cons (.var 6) .nil)) false) (.cons (.ite (.cmp .NotEq (.call 19 (.var 7) .nil) (.var 0)) (.cons (.raiP 1 (.int 0)) .nil) .nil) (.cons (.retV 7) .nil)))))))))))))))
    [some (.sh (.str (SX.S (txt x)))), none, none, none, none, none, none, none]) = _
  rw [slash, dash, one_s]
  by_cases hq : x.2 = 1
  · rw [if_pos hq] at sp
    have t0 : ∀ a : Str, subR (.val true (.lst [.str a])) 0 = some (.val true (.str a)) := fun _ => rfl
    cases b with
    | true =>
      rw [if_pos rfl] at rest
      rw [hq, rest.2] at rat
      simp -implicitDefEqProofs [ods, sp, t0, st, rest.1, n1, n3, i1, i3, rat, fmt]
    | false =>
      rw [if_neg (by decide)] at rest
      rw [hq, rest.2] at rat
      rw [rest.1] at st sp
      simp -implicitDefEqProofs [ods, sp, t0, st, n1, n3, i1, i3, rat, fmt]
  · rw [if_neg hq, e2] at sp
    have t0 : ∀ a b : Str, subR (.val true (.lst [.str a, .str b])) 0 = some (.val true (.str a)) := fun _ _ => rfl
    have t1 : ∀ a b : Str, subR (.val true (.lst [.str a, .str b])) 1 = some (.val true (.str b)) := fun _ _ => rfl
    cases b with
    | true =>
      rw [if_pos rfl] at rest
      rw [rest.2] at rat
      simp -implicitDefEqProofs [ods, sp, t0, t1, st, rest.1, n1, n2, i1, i2, x20, rat, fmt]
    | false =>
      rw [if_neg (by decide)] at rest
      rw [rest.2] at rat
      rw [rest.1] at st sp
      simp -implicitDefEqProofs [ods, sp, t0, t1, st, n1, n2, i1, i2, x20, rat, fmt]
end TL

namespace TL
open PySem PySem.Spec L2
def dfs_k04 (k : Nat) : Option Df := if k = 0 then some df_ratio else if k = 19 then some df_format_ratio else if k = 20 then some df_is_number else if k = 21 then some df_parse_ratio else if k = 1 then some df__law_is_integer else if k = 2 then some df__law_row else if k = 3 then some df__law_long else if k = 4 then some df__law_gcd else if k = 12 then some df__law_lowest else if k = 22 then some df_law_k04 else none
def cst_k04 (k : Nat) : Option D := if k = 0 then some (.str "0123456789") else if k = 1 then some (.int 60) else none
def P_k04 : PgD := ⟨cst_k04, dfs_k04⟩
end TL

namespace TL
open PySem PySem.Spec L2
theorem k04_fin (n : Nat) (a b c d : Option O) (x : Int × Int) (hp : 1 ≤ x.2) (hg : gcdI x.1 x.2 = 1) (h1 : x.1.natAbs < 10 ^ 60) (h2 : x.2.natAbs < 10 ^ 60) :
    ouM (evSs (pgN P_k04 (n + 2)) (df_law_k04.body.dp 7) [a, b, c, d, some (.sh (frD x)), none, none, none]) = .ok (.sh (.bl true)) := by
  have l1 := log60 h1
  have l2 := log60 h2
  have la := iL_len h1
  have lb := iL_len h2
  have fmt := call_sh (P := P_k04) (n := n + 2) (k := 19) (d := df_format_ratio) (rs := [.val true (frD x)]) rfl rfl rfl (ev_format rfl (n + 1) x h1 h2) rfl
  have prs := call_sh (P := P_k04) (n := n + 2) (k := 21) (d := df_parse_ratio) (rs := [.val true (.str (SX.S (txt x)))]) rfl rfl rfl (ev_parse rfl rfl rfl rfl rfl rfl n x hp hg h1 h2) rfl
  have isi := fun i => call_sh (P := P_k04) (n := n + 2) (k := 1) (d := df__law_is_integer) (rs := [.val true (.int i)]) rfl rfl rfl (ev_is_integer rfl (n + 1) i) rfl
  have p1 : pIsT "str" (.str (SX.S (txt x))) = some true := rfl
  have ln : ∀ c, primN (pBlt .len) (.ok [.val c (frD x)]) = .ok (.val true (.int 2)) := fun c => rfl
  have eqx : ∀ c c', prim2 (pCmp .Eq) (.ok (.val c (frD x))) (.ok (.val c' (frD x))) = .ok (.val true (.bl true)) := fun c c' => by
    have hs : SeqAt.shaped (.tuple [.int x.1, .int x.2]) = true := by
      unfold SeqAt.shaped
      refine Bool.and_eq_true_iff.mpr ⟨by simp [PyData.canLay0, PyData.canLayAll0], decide_eq_true ?_⟩
      simp [PyData.depth, PyData.depthAll]
    have hq : PyData.eqv (.tuple [.int x.1, .int x.2]) (.tuple [.int x.1, .int x.2]) = true := SeqAt.eqv_refl _ (by simp [PyData.canLay0, PyData.canLayAll0])
    have e : pEq (frD x) (frD x) = some (.sc (.bl true)) := by
      unfold pEq eqD
      rw [if_neg (by simp [scD, frD]), fr_p]
      show Option.map _ (if (SeqAt.shaped _ && SeqAt.shaped _) = true then some (PyData.eqv _ _) else none) = _
      rw [if_pos (by rw [hs]; rfl), hq]
      rfl
    exact prim2_ok (pCmp .Eq) (.val c (frD x)) (.val c' (frD x)) e
  have due : evSs (pgN P_k04 (n + 2)) ((df_law_k04.body.dp 7).tk 2) [a, b, c, d, some (.sh (frD x)), none, none, none] = .nx [a, b, c, d, some (.sh (frD x)), some (.sh (.str (SX.S (txt x)))), none, none] := by
    show evSs (pgN P_k04 (n + 2)) (.cons (.set 5 (.blt .str (.idx (.var 4) (.int 0)) .nil) false) (.cons (.ite (.cmp .NotEq (.idx (.var 4) (.int 1)) (.int 1)) (.cons (.set 5 (.bin .Add (.bin .Add (.var 5) (.str "/")) (.blt .str (.idx (.var 4) (.int 1)) .nil)) false) .nil) .nil) .nil)) _ = _
    rw [slash]
    have strX : ∀ (c : Bool) (i : Int), i.natAbs < 10 ^ 60 → primN (pBlt .str) (.ok [.val c (.int i)]) = .ok (.val true (.str (SX.S (iL i)))) := fun c i hi => by
      rw [strN (log60 hi), str_int]
    have s1 := fun c => strX c x.1 h1
    have s2 := fun c => strX c x.2 h2
    by_cases hq : x.2 = 1
    · have e : txt x = iL x.1 := if_pos hq
      rw [e]
      simp -implicitDefEqProofs [s1, hq, -strN]
    · have z1 : (SX.S (iL x.1)).length + (SX.S [47]).length ≤ sizeLine := by
        rw [SX.S_len, SX.S_len, sizeLine_eq]
        simp only [List.length_cons, List.length_nil]
        omega
      have z2 : (SX.S (iL x.1 ++ [47])).length + (SX.S (iL x.2)).length ≤ sizeLine := by
        rw [SX.S_len, SX.S_len, List.length_append, sizeLine_eq]
        simp only [List.length_cons, List.length_nil]
        omega
      have c1 : ∀ c c', prim2 (pBin .Add) (.ok (.val c (.str (SX.S (iL x.1))))) (.ok (.val c' (.str (SX.S [47])))) = .ok (.val true (.str (SX.S (iL x.1 ++ [47])))) := fun c c' => by
        rw [addS z1, SX.S_cat]
      have c2 : ∀ c c', prim2 (pBin .Add) (.ok (.val c (.str (SX.S (iL x.1 ++ [47]))))) (.ok (.val c' (.str (SX.S (iL x.2))))) = .ok (.val true (.str (SX.S (iL x.1 ++ [47] ++ iL x.2)))) := fun c c' => by
        rw [addS z2, SX.S_cat]
      have e2 : txt x = iL x.1 ++ [47] ++ iL x.2 := by
        have e : txt x = iL x.1 ++ 47 :: iL x.2 := if_neg hq
        rw [e]; simp
      rw [e2]
      simp -implicitDefEqProofs [s1, s2, hq, c1, c2, -strN, -addS, -List.append_assoc]
  rw [evSs_cut _ _ 2 _ _ due]
  simp -implicitDefEqProofs [df_law_k04, fmt, prs, isi, p1, pIsT_fr, ln, eqx]
theorem hlaw_k04 (ns : List Int) (h : ns.length ≤ 63) : callN P_k04 7 22 [.scr ns] = .ok (.sh (.bl true)) := by
  obtain ⟨xs, hl, hc, er⟩ := ev_row (P := P_k04) rfl 5 ns 0 44 (by decide)
  have c2 := call_ls (P := P_k04) (n := 6) (k := 2) (d := df__law_row) (rs := [.val true (.scr ns), .val true (.int 0), .val true (.int 44)]) rfl rfl rfl er rfl
  have i0 := subR_clN (xs := xs) 0 (j := 0) rfl (by omega)
  have i1 := subR_clN (xs := xs) 1 (j := 1) rfl (by omega)
  have i2 := subR_clN (xs := xs) 2 (j := 2) rfl (by omega)
  have i3 := subR_clN (xs := xs) 3 (j := 3) rfl (by omega)
  have x0 := cl_bd hc 0
  have x1 := cl_bd hc 1
  obtain ⟨m0, hm0, hm0'⟩ : ∃ m : Nat, 1 + cl xs 0 % 20 = (m : Int) ∧ m ≤ 20 := ⟨(1 + cl xs 0 % 20).toNat, by omega, by omega⟩
  obtain ⟨m1, hm1, hm1'⟩ : ∃ m : Nat, 1 + cl xs 1 % 20 = (m : Int) ∧ m ≤ 20 := ⟨(1 + cl xs 1 % 20).toNat, by omega, by omega⟩
  have p1 := call_sh (P := P_k04) (n := 6) (k := 3) (d := df__law_long) (rs := [.val true (.lst (iDs xs)), .val true (.int 4), .val true (.int m0)]) rfl rfl rfl (ev_long rfl 5 xs 4 m0 (by omega) (by omega)) rfl
  have p2 := call_sh (P := P_k04) (n := 6) (k := 3) (d := df__law_long) (rs := [.val true (.lst (iDs xs)), .val true (.int 24), .val true (.int m1)]) rfl rfl rfl (ev_long rfl 5 xs 24 m1 (by omega) (by omega)) rfl
  have bd : ∀ s m, s + m ≤ 44 → m ≤ 20 → 0 ≤ longI xs s m ∧ longI xs s m < 10 ^ 60 := fun s m h1 h2 => by
    have := long_bd hc s m (by omega)
    refine ⟨this.1, Int.lt_of_lt_of_le this.2 ?_⟩
    have e1 : (1000 : Int) ^ m ≤ 1000 ^ 20 := by
      have := Nat.pow_le_pow_right (n := 1000) (by decide) h2
      exact_mod_cast this
    have e2 : (1000 : Int) ^ 20 = 10 ^ 60 := by decide +kernel
    omega
  have b1 := bd 4 m0 (by omega) hm0'
  have b2 := bd 24 m1 (by omega) hm1'
  generalize longI xs 4 m0 = P0 at *
  generalize longI xs 24 m1 = Q0 at *
  have q1 : 1 ≤ (if Q0 > 1 then Q0 else 1) := by split <;> omega
  have q2 : (if Q0 > 1 then Q0 else 1) < 10 ^ 60 := by split <;> omega
  generalize hQ : (if Q0 > 1 then Q0 else 1) = Q at *
  have fin : ∀ (p q : Int), 1 ≤ q → p.natAbs < 10 ^ 60 → q.natAbs < 10 ^ 60 → (evCall ((pgN P_k04 6).ar 12) ((pgN P_k04 6).call 12) (.ok [.val true (.int p), .val true (.int q)]) = .ok (.val true (frD (low p q))) → ∃ a b c d, evSs (pgN P_k04 6) (df_law_k04.body.tk 7) (enOf df_law_k04.N.length [.scr ns]) = .nx [a, b, c, d, some (.sh (frD (low p q))), none, none, none]) → callN P_k04 7 22 [.scr ns] = .ok (.sh (.bl true)) := fun p q hq hp hqb e => by
    have c := call_sh (P := P_k04) (n := 6) (k := 12) (d := df__law_lowest) (rs := [.val true (.int p), .val true (.int q)]) rfl rfl rfl (ev_lowest rfl rfl 4 p q (m := 200) hq (Nat.lt_trans hqb (by decide +kernel)) (by decide)) rfl
    obtain ⟨a, b, c, d, e⟩ := e c
    obtain ⟨l1, l2, _, l4, l5⟩ := low_ok p q (by omega)
    rw [callN_cut (P := P_k04) (d := df_law_k04) rfl rfl 7 e]
    exact k04_fin 4 a b c d (low p q) l1 l2 (Nat.lt_of_le_of_lt l4 hp) (Nat.lt_of_le_of_lt l5 hqb)
  by_cases h1 : cl xs 2 % 4 = 1 <;> by_cases h2 : cl xs 2 % 8 = 6 <;> by_cases h3 : cl xs 3 % 2 = 1
  · omega
  · omega
  · exact fin (-P0) 1 (by omega) (by omega) (by decide) fun c => ⟨some (.sh (.scr ns)), some (.sh (.lst (iDs xs))), sI (-P0), sI 1, by simp -implicitDefEqProofs [df_law_k04, enOf, c2, i0, i1, i2, i3, hm0, hm1, p1, p2, hQ, h1, h2, h3, c]⟩
  · exact fin P0 1 (by omega) (by omega) (by decide) fun c => ⟨some (.sh (.scr ns)), some (.sh (.lst (iDs xs))), sI P0, sI 1, by simp -implicitDefEqProofs [df_law_k04, enOf, c2, i0, i1, i2, i3, hm0, hm1, p1, p2, hQ, h1, h2, h3, c]⟩
  · exact fin 0 Q (by omega) (by decide) (by omega) fun c => ⟨some (.sh (.scr ns)), some (.sh (.lst (iDs xs))), sI 0, sI Q, by simp -implicitDefEqProofs [df_law_k04, enOf, c2, i0, i1, i2, i3, hm0, hm1, p1, p2, hQ, h1, h2, h3, c]⟩
  · exact fin 0 Q (by omega) (by decide) (by omega) fun c => ⟨some (.sh (.scr ns)), some (.sh (.lst (iDs xs))), sI 0, sI Q, by simp -implicitDefEqProofs [df_law_k04, enOf, c2, i0, i1, i2, i3, hm0, hm1, p1, p2, hQ, h1, h2, h3, c]⟩
  · exact fin (-P0) Q (by omega) (by omega) (by omega) fun c => ⟨some (.sh (.scr ns)), some (.sh (.lst (iDs xs))), sI (-P0), sI Q, by simp -implicitDefEqProofs [df_law_k04, enOf, c2, i0, i1, i2, i3, hm0, hm1, p1, p2, hQ, h1, h2, h3, c]⟩
  · exact fin P0 Q (by omega) (by omega) (by omega) fun c => ⟨some (.sh (.scr ns)), some (.sh (.lst (iDs xs))), sI P0, sI Q, by simp -implicitDefEqProofs [df_law_k04, enOf, c2, i0, i1, i2, i3, hm0, hm1, p1, p2, hQ, h1, h2, h3, c]⟩
end TL

section
set_option maxHeartbeats 0
namespace HT
open PySem PySem.Spec PyProof.Rows L2 TL
def top (i : Nat) : Stmt := PySem.Challenge.pw_buybook_k04_written_form_back.main.body.getD i (.Pass ⟨0, 0, 0, 0⟩)
def d7 : He.DefD := ⟨("ratio", none), "ratio", "ratio", defArgs (top 7), defBody (top 7), defScope (top 7), [], []⟩
def d8 : He.DefD := ⟨("format_ratio", none), "format_ratio", "format_ratio", defArgs (top 8), defBody (top 8), defScope (top 8), [], []⟩
def d9 : He.DefD := ⟨("is_number", none), "is_number", "is_number", defArgs (top 9), defBody (top 9), defScope (top 9), [], []⟩
def d10 : He.DefD := ⟨("parse_ratio", none), "parse_ratio", "parse_ratio", defArgs (top 10), defBody (top 10), defScope (top 10), [], []⟩
def d12 : He.DefD := ⟨("_law_is_integer", none), "_law_is_integer", "_law_is_integer", defArgs (top 12), defBody (top 12), defScope (top 12), [], []⟩
def d13 : He.DefD := ⟨("_law_row", none), "_law_row", "_law_row", defArgs (top 13), defBody (top 13), defScope (top 13), [], []⟩
def d14 : He.DefD := ⟨("_law_long", none), "_law_long", "_law_long", defArgs (top 14), defBody (top 14), defScope (top 14), [], []⟩
def d15 : He.DefD := ⟨("_law_gcd", none), "_law_gcd", "_law_gcd", defArgs (top 15), defBody (top 15), defScope (top 15), [], []⟩
def d16 : He.DefD := ⟨("_law_lowest", none), "_law_lowest", "_law_lowest", defArgs (top 16), defBody (top 16), defScope (top 16), [], []⟩
def d17 : He.DefD := ⟨("law", none), "law", "law", defArgs (top 17), defBody (top 17), defScope (top 17), [], []⟩
def d3_0 : He.DefD := ⟨("BadText", some "__init__"), "__init__", "BadText.__init__", defArgs (inClass (top 3) 0), defBody (inClass (top 3) 0), defScope (inClass (top 3) 0), [], []⟩
def fn : List He.DefD := [d7, d8, d9, d10, d12, d13, d14, d15, d16, d17, d3_0]
def globs : List Str := ["ratio", "format_ratio", "is_number", "parse_ratio", "_law_is_integer", "_law_row", "_law_long", "_law_gcd", "_law_lowest", "law", "BookError", "BadText"]
def frees : List Str := ["ValueError", "abs", "bool", "int", "isinstance", "len", "max", "range", "str", "tuple"]
def fa : List He.Fa := globs.map He.Fa.glo ++ frees.map He.Fa.free
def bfs : List (Str × String) := [("gcd", "math.gcd")]
def exs (K : PySem.W.Frag) : List Bool := [(bfs.all fun p => He.eqO (PySem.W.nsIn K mainGlobals p.1) (some (some (.builtin p.2)))), (He.Fa.str "DIGITS" "0123456789").ok K, (He.Fa.int "MOST_DIGITS" 60).ok K, (He.Fa.exc "BookError").ok K, oexF K "BadText"]
def ex (K : PySem.W.Frag) : Bool := (exs K).all id
abbrev R : PySem.W.OpenRow := PySem.W.OpenLaw.row PySem.Challenge.rw_buybook_k04_written_form_back
abbrev hk : PySem.W.Hook := hookE 5 fa fn ex
def ob (s : PySem.W.SharedT) : AlE := obsE 5 fa fn ex (HandSHeadRun.getT s)
theorem ob_eq (s : PySem.W.SharedT) : ob s = hk.obs s.abs := obsE_eq (HandSHeadRun.getT_eq s)
def lo0 : List Str := ["BookError", "BadText", "DIGITS", "MOST_DIGITS", "ratio", "format_ratio", "is_number", "parse_ratio", "_law_is_integer", "_law_row", "_law_long", "_law_gcd", "_law_lowest"]
def loose : List Str := lo0
theorem run (w : World) : HandSHeadRun.RunEqI R (PySem.W.view R.prog [0, 17]) hk ob 4000 loose w := by
  unfold HandSHeadRun.RunEqI
  kernel_rfl
def fnN : List (Nat × Str) := [(0, "ratio"), (19, "format_ratio"), (20, "is_number"), (21, "parse_ratio"), (1, "_law_is_integer"), (2, "_law_row"), (3, "_law_long"), (4, "_law_gcd"), (12, "_law_lowest"), (22, "law")]
def cstN : List (Nat × Str) := [(0, "DIGITS"), (1, "MOST_DIGITS")]
def exN : List (Nat × Str) := [(0, "BookError")]
def exiN : List (Nat × Str) := [(1, "BadText")]
def ck : Ck := ⟨[], ⟨.function, [], false, false, []⟩, frees, bfs, cstN, fnN, [], exN, exiN⟩
theorem chk7 : chkSs { ck with N := df_ratio.N, sc := defScope (top 7) } df_ratio.body (defBody (top 7)) = true := by decide +kernel
theorem sc7 : FnScope df_ratio.N (df_ratio.N.take df_ratio.ar) (defScope (top 7)) := ⟨rfl, rfl, rfl, by decide +kernel, rfl, by decide +kernel, by decide +kernel⟩
theorem bd7 (kV doc pm : Value) (an : Option Addr) (cdv ct : Value) (us : List Value) (hl : us.length = (df_ratio.N.take df_ratio.ar).length) : bindArgs (PySem.W.fnOf "ratio" "ratio" (defArgs (top 7)) (defBody (top 7)) (defScope (top 7)) .none kV doc pm an cdv ct) ⟨us, []⟩ = pure ((df_ratio.N.take df_ratio.ar).zip us) :=
  match us, hl with
  | [_, _], _ => rfl
theorem chk8 : chkSs { ck with N := df_format_ratio.N, sc := defScope (top 8) } df_format_ratio.body (defBody (top 8)) = true := by decide +kernel
theorem sc8 : FnScope df_format_ratio.N (df_format_ratio.N.take df_format_ratio.ar) (defScope (top 8)) := ⟨rfl, rfl, rfl, by decide +kernel, rfl, by decide +kernel, by decide +kernel⟩
theorem bd8 (kV doc pm : Value) (an : Option Addr) (cdv ct : Value) (us : List Value) (hl : us.length = (df_format_ratio.N.take df_format_ratio.ar).length) : bindArgs (PySem.W.fnOf "format_ratio" "format_ratio" (defArgs (top 8)) (defBody (top 8)) (defScope (top 8)) .none kV doc pm an cdv ct) ⟨us, []⟩ = pure ((df_format_ratio.N.take df_format_ratio.ar).zip us) :=
  match us, hl with
  | [_], _ => rfl
theorem chk9 : chkSs { ck with N := df_is_number.N, sc := defScope (top 9) } df_is_number.body (defBody (top 9)) = true := by decide +kernel
theorem sc9 : FnScope df_is_number.N (df_is_number.N.take df_is_number.ar) (defScope (top 9)) := ⟨rfl, rfl, rfl, by decide +kernel, rfl, by decide +kernel, by decide +kernel⟩
theorem bd9 (kV doc pm : Value) (an : Option Addr) (cdv ct : Value) (us : List Value) (hl : us.length = (df_is_number.N.take df_is_number.ar).length) : bindArgs (PySem.W.fnOf "is_number" "is_number" (defArgs (top 9)) (defBody (top 9)) (defScope (top 9)) .none kV doc pm an cdv ct) ⟨us, []⟩ = pure ((df_is_number.N.take df_is_number.ar).zip us) :=
  match us, hl with
  | [_], _ => rfl
theorem chk10 : chkSs { ck with N := df_parse_ratio.N, sc := defScope (top 10) } df_parse_ratio.body (defBody (top 10)) = true := by decide +kernel
theorem sc10 : FnScope df_parse_ratio.N (df_parse_ratio.N.take df_parse_ratio.ar) (defScope (top 10)) := ⟨rfl, rfl, rfl, by decide +kernel, rfl, by decide +kernel, by decide +kernel⟩
theorem bd10 (kV doc pm : Value) (an : Option Addr) (cdv ct : Value) (us : List Value) (hl : us.length = (df_parse_ratio.N.take df_parse_ratio.ar).length) : bindArgs (PySem.W.fnOf "parse_ratio" "parse_ratio" (defArgs (top 10)) (defBody (top 10)) (defScope (top 10)) .none kV doc pm an cdv ct) ⟨us, []⟩ = pure ((df_parse_ratio.N.take df_parse_ratio.ar).zip us) :=
  match us, hl with
  | [_], _ => rfl
theorem chk12 : chkSs { ck with N := df__law_is_integer.N, sc := defScope (top 12) } df__law_is_integer.body (defBody (top 12)) = true := by decide +kernel
theorem sc12 : FnScope df__law_is_integer.N (df__law_is_integer.N.take df__law_is_integer.ar) (defScope (top 12)) := ⟨rfl, rfl, rfl, by decide +kernel, rfl, by decide +kernel, by decide +kernel⟩
theorem bd12 (kV doc pm : Value) (an : Option Addr) (cdv ct : Value) (us : List Value) (hl : us.length = (df__law_is_integer.N.take df__law_is_integer.ar).length) : bindArgs (PySem.W.fnOf "_law_is_integer" "_law_is_integer" (defArgs (top 12)) (defBody (top 12)) (defScope (top 12)) .none kV doc pm an cdv ct) ⟨us, []⟩ = pure ((df__law_is_integer.N.take df__law_is_integer.ar).zip us) :=
  match us, hl with
  | [_], _ => rfl
theorem chk13 : chkSs { ck with N := df__law_row.N, sc := defScope (top 13) } df__law_row.body (defBody (top 13)) = true := by decide +kernel
theorem sc13 : FnScope df__law_row.N (df__law_row.N.take df__law_row.ar) (defScope (top 13)) := ⟨rfl, rfl, rfl, by decide +kernel, rfl, by decide +kernel, by decide +kernel⟩
theorem bd13 (kV doc pm : Value) (an : Option Addr) (cdv ct : Value) (us : List Value) (hl : us.length = (df__law_row.N.take df__law_row.ar).length) : bindArgs (PySem.W.fnOf "_law_row" "_law_row" (defArgs (top 13)) (defBody (top 13)) (defScope (top 13)) .none kV doc pm an cdv ct) ⟨us, []⟩ = pure ((df__law_row.N.take df__law_row.ar).zip us) :=
  match us, hl with
  | [_, _, _], _ => rfl
theorem chk14 : chkSs { ck with N := df__law_long.N, sc := defScope (top 14) } df__law_long.body (defBody (top 14)) = true := by decide +kernel
theorem sc14 : FnScope df__law_long.N (df__law_long.N.take df__law_long.ar) (defScope (top 14)) := ⟨rfl, rfl, rfl, by decide +kernel, rfl, by decide +kernel, by decide +kernel⟩
theorem bd14 (kV doc pm : Value) (an : Option Addr) (cdv ct : Value) (us : List Value) (hl : us.length = (df__law_long.N.take df__law_long.ar).length) : bindArgs (PySem.W.fnOf "_law_long" "_law_long" (defArgs (top 14)) (defBody (top 14)) (defScope (top 14)) .none kV doc pm an cdv ct) ⟨us, []⟩ = pure ((df__law_long.N.take df__law_long.ar).zip us) :=
  match us, hl with
  | [_, _, _], _ => rfl
theorem chk15 : chkSs { ck with N := df__law_gcd.N, sc := defScope (top 15) } df__law_gcd.body (defBody (top 15)) = true := by decide +kernel
theorem sc15 : FnScope df__law_gcd.N (df__law_gcd.N.take df__law_gcd.ar) (defScope (top 15)) := ⟨rfl, rfl, rfl, by decide +kernel, rfl, by decide +kernel, by decide +kernel⟩
theorem bd15 (kV doc pm : Value) (an : Option Addr) (cdv ct : Value) (us : List Value) (hl : us.length = (df__law_gcd.N.take df__law_gcd.ar).length) : bindArgs (PySem.W.fnOf "_law_gcd" "_law_gcd" (defArgs (top 15)) (defBody (top 15)) (defScope (top 15)) .none kV doc pm an cdv ct) ⟨us, []⟩ = pure ((df__law_gcd.N.take df__law_gcd.ar).zip us) :=
  match us, hl with
  | [_, _], _ => rfl
theorem chk16 : chkSs { ck with N := df__law_lowest.N, sc := defScope (top 16) } df__law_lowest.body (defBody (top 16)) = true := by decide +kernel
theorem sc16 : FnScope df__law_lowest.N (df__law_lowest.N.take df__law_lowest.ar) (defScope (top 16)) := ⟨rfl, rfl, rfl, by decide +kernel, rfl, by decide +kernel, by decide +kernel⟩
theorem bd16 (kV doc pm : Value) (an : Option Addr) (cdv ct : Value) (us : List Value) (hl : us.length = (df__law_lowest.N.take df__law_lowest.ar).length) : bindArgs (PySem.W.fnOf "_law_lowest" "_law_lowest" (defArgs (top 16)) (defBody (top 16)) (defScope (top 16)) .none kV doc pm an cdv ct) ⟨us, []⟩ = pure ((df__law_lowest.N.take df__law_lowest.ar).zip us) :=
  match us, hl with
  | [_, _], _ => rfl
theorem chk17 : chkSs { ck with N := df_law_k04.N, sc := defScope (top 17) } df_law_k04.body (defBody (top 17)) = true := by decide +kernel
theorem sc17 : FnScope df_law_k04.N (df_law_k04.N.take df_law_k04.ar) (defScope (top 17)) := ⟨rfl, rfl, rfl, by decide +kernel, rfl, by decide +kernel, by decide +kernel⟩
theorem bd17 (kV doc pm : Value) (an : Option Addr) (cdv ct : Value) (us : List Value) (hl : us.length = (df_law_k04.N.take df_law_k04.ar).length) : bindArgs (PySem.W.fnOf "law" "law" (defArgs (top 17)) (defBody (top 17)) (defScope (top 17)) .none kV doc pm an cdv ct) ⟨us, []⟩ = pure ((df_law_k04.N.take df_law_k04.ar).zip us) :=
  match us, hl with
  | [_], _ => rfl
def clsf (K : PySem.W.Frag) : Nat → Addr := fun k => if k = 0 then He.ga K "BookError" else if k = 1 then He.ga K "BadText" else 0
def gc (K : PySem.W.Frag) : Gc := ⟨K, clsf K, fun _ => [], fun k => if k = 0 then .str "0123456789" else if k = 1 then .int 60 else .non⟩
theorem tab {K : PySem.W.Frag} {h : Heap} {mg : Str → Option Value} (X : K.In h) (G : h.Ns mainGlobals mg) (cd : He.SaysD fa fn K) (cx : ex K = true) : Tab (gc K) mg ck P_k04 := by
  have gl : ∀ x ∈ globs, mg x = some (.ref (He.ga K x)) := fun x hx => He.glo_ok X G (cd.facts (List.mem_append_left _ (List.mem_map_of_mem hx)))
  have cx : ∀ i b, (exs K)[i]? = some b → b = true := fun i b h => by
    have := List.all_eq_true.mp cx b (List.mem_of_getElem? h)
    simpa using this
  refine ⟨fun x hx => He.free_ok X G (cd.facts (List.mem_append_right _ (List.mem_map_of_mem hx))), fun x id hx => ?_, fun k x hx => ?_, fun cl k f hf => ?_, fun n => ⟨fun k d hd S => ?_, fun cl k f hf => ?_⟩, fun k x hx => ?_, fun k x hx => ?_, fun k x hx => ?_⟩
  · exact PySem.W.mg_of X G (He.eqO_ok (List.all_eq_true.mp (cx 0 _ rfl) _ hx))
  · obtain ⟨j, e⟩ : ∃ j, j = k := ⟨k, rfl⟩
    by_cases h0 : k = 0
    · subst h0
      have ex0 : x = "DIGITS" := (Option.some.inj (show some ("DIGITS" : Str) = some x from hx)).symm
      subst ex0
      obtain ⟨t, ht⟩ := He.str_ok X G (cx 1 _ rfl)
      exact ⟨_, ht, t, rfl⟩
    by_cases h1 : k = 1
    · subst h1
      have ex0 : x = "MOST_DIGITS" := (Option.some.inj (show some ("MOST_DIGITS" : Str) = some x from hx)).symm
      subst ex0
      obtain ⟨t, ht⟩ := He.int_ok X G (cx 2 _ rfl)
      exact ⟨_, ht, t, rfl⟩
    exact absurd (show cstN.lookup k = some x from hx) (by simp [cstN, List.lookup, beq_eq_false_iff_ne.mpr h0, beq_eq_false_iff_ne.mpr h1])
  · cases cl <;> cases hf
  · have hd : cst_k04 k = some d := hd
    by_cases h0 : k = 0
    · subst h0
      have e := Option.some.inj (show some (.str "0123456789" : D) = some d from hd)
      subst e
      simp only [Rep]
      rfl
    by_cases h1 : k = 1
    · subst h1
      have e := Option.some.inj (show some (.int 60 : D) = some d from hd)
      subst e
      simp only [Rep]
      rfl
    unfold cst_k04 at hd
    simp [h0, h1] at hd
  · cases hf
  · have hx : exN.lookup k = some x := hx
    by_cases h0 : k = 0
    · subst h0
      have ex0 : x = "BookError" := (Option.some.inj (show some ("BookError" : Str) = some x from hx)).symm
      subst ex0
      have f := He.exc_ok (cx 3 _ rfl)
      exact ⟨gl _ (by simp [globs]), f.1, f.2.1, f.2.2.1, f.2.2.2⟩
    exact absurd hx (by simp [exN, List.lookup, beq_eq_false_iff_ne.mpr h0])
  · have hx : exiN.lookup k = some x := hx
    by_cases h1 : k = 1
    · subst h1
      have ex0 : x = "BadText" := (Option.some.inj (show some ("BadText" : Str) = some x from hx)).symm
      subst ex0
      obtain ⟨o1, o2, o3, o4⟩ := oexF_ok (cx 4 _ rfl)
      obtain ⟨fd, F⟩ := cd.def_ 10 (d := d3_0) rfl
      exact ⟨gl _ (by simp [globs]), o1, o2, "BadText.__init__", _, fd, _, _, _, o3, o4, F, ⟨rfl, rfl, rfl, by decide +kernel, rfl, by decide +kernel, by decide +kernel⟩, by decide +kernel, fun s us hl => F.bindsA (fun _ _ _ _ _ _ us hl => match us, hl with | [_, _], _ => rfl) s us hl⟩
    exact absurd hx (by simp [exiN, List.lookup, beq_eq_false_iff_ne.mpr h1])
  · have hx : fnN.lookup k = some x := hx
    by_cases h7 : k = 0
    · subst h7
      have ex0 : x = "ratio" := (Option.some.inj (show some ("ratio" : Str) = some x from hx)).symm
      subst ex0
      obtain ⟨fd, F⟩ := cd.def_ 0 (d := d7) rfl
      exact ⟨df_ratio, _, fd, _, _, _, rfl, F, gl _ (by simp [globs]), sc7, by decide, fun s us hl => F.bindsA bd7 s us hl, chk7⟩
    by_cases h8 : k = 19
    · subst h8
      have ex0 : x = "format_ratio" := (Option.some.inj (show some ("format_ratio" : Str) = some x from hx)).symm
      subst ex0
      obtain ⟨fd, F⟩ := cd.def_ 1 (d := d8) rfl
      exact ⟨df_format_ratio, _, fd, _, _, _, rfl, F, gl _ (by simp [globs]), sc8, by decide, fun s us hl => F.bindsA bd8 s us hl, chk8⟩
    by_cases h9 : k = 20
    · subst h9
      have ex0 : x = "is_number" := (Option.some.inj (show some ("is_number" : Str) = some x from hx)).symm
      subst ex0
      obtain ⟨fd, F⟩ := cd.def_ 2 (d := d9) rfl
      exact ⟨df_is_number, _, fd, _, _, _, rfl, F, gl _ (by simp [globs]), sc9, by decide, fun s us hl => F.bindsA bd9 s us hl, chk9⟩
    by_cases h10 : k = 21
    · subst h10
      have ex0 : x = "parse_ratio" := (Option.some.inj (show some ("parse_ratio" : Str) = some x from hx)).symm
      subst ex0
      obtain ⟨fd, F⟩ := cd.def_ 3 (d := d10) rfl
      exact ⟨df_parse_ratio, _, fd, _, _, _, rfl, F, gl _ (by simp [globs]), sc10, by decide, fun s us hl => F.bindsA bd10 s us hl, chk10⟩
    by_cases h12 : k = 1
    · subst h12
      have ex0 : x = "_law_is_integer" := (Option.some.inj (show some ("_law_is_integer" : Str) = some x from hx)).symm
      subst ex0
      obtain ⟨fd, F⟩ := cd.def_ 4 (d := d12) rfl
      exact ⟨df__law_is_integer, _, fd, _, _, _, rfl, F, gl _ (by simp [globs]), sc12, by decide, fun s us hl => F.bindsA bd12 s us hl, chk12⟩
    by_cases h13 : k = 2
    · subst h13
      have ex0 : x = "_law_row" := (Option.some.inj (show some ("_law_row" : Str) = some x from hx)).symm
      subst ex0
      obtain ⟨fd, F⟩ := cd.def_ 5 (d := d13) rfl
      exact ⟨df__law_row, _, fd, _, _, _, rfl, F, gl _ (by simp [globs]), sc13, by decide, fun s us hl => F.bindsA bd13 s us hl, chk13⟩
    by_cases h14 : k = 3
    · subst h14
      have ex0 : x = "_law_long" := (Option.some.inj (show some ("_law_long" : Str) = some x from hx)).symm
      subst ex0
      obtain ⟨fd, F⟩ := cd.def_ 6 (d := d14) rfl
      exact ⟨df__law_long, _, fd, _, _, _, rfl, F, gl _ (by simp [globs]), sc14, by decide, fun s us hl => F.bindsA bd14 s us hl, chk14⟩
    by_cases h15 : k = 4
    · subst h15
      have ex0 : x = "_law_gcd" := (Option.some.inj (show some ("_law_gcd" : Str) = some x from hx)).symm
      subst ex0
      obtain ⟨fd, F⟩ := cd.def_ 7 (d := d15) rfl
      exact ⟨df__law_gcd, _, fd, _, _, _, rfl, F, gl _ (by simp [globs]), sc15, by decide, fun s us hl => F.bindsA bd15 s us hl, chk15⟩
    by_cases h16 : k = 12
    · subst h16
      have ex0 : x = "_law_lowest" := (Option.some.inj (show some ("_law_lowest" : Str) = some x from hx)).symm
      subst ex0
      obtain ⟨fd, F⟩ := cd.def_ 8 (d := d16) rfl
      exact ⟨df__law_lowest, _, fd, _, _, _, rfl, F, gl _ (by simp [globs]), sc16, by decide, fun s us hl => F.bindsA bd16 s us hl, chk16⟩
    by_cases h17 : k = 22
    · subst h17
      have ex0 : x = "law" := (Option.some.inj (show some ("law" : Str) = some x from hx)).symm
      subst ex0
      obtain ⟨fd, F⟩ := cd.def_ 9 (d := d17) rfl
      exact ⟨df_law_k04, _, fd, _, _, _, rfl, F, gl _ (by simp [globs]), sc17, by decide, fun s us hl => F.bindsA bd17 s us hl, chk17⟩
    exact absurd hx (by simp [fnN, List.lookup, beq_eq_false_iff_ne.mpr h7, beq_eq_false_iff_ne.mpr h8, beq_eq_false_iff_ne.mpr h9, beq_eq_false_iff_ne.mpr h10, beq_eq_false_iff_ne.mpr h12, beq_eq_false_iff_ne.mpr h13, beq_eq_false_iff_ne.mpr h14, beq_eq_false_iff_ne.mpr h15, beq_eq_false_iff_ne.mpr h16, beq_eq_false_iff_ne.mpr h17])
end HT
open PySem PySem.W PySem.Calls PyProof.Rows
theorem PySem.Challenge.cw_buybook_k04_written_form_back_holds : PySem.Challenge.rw_buybook_k04_written_form_back.Holds := by
  w_on; o_law
  refine HandSHeadRun.head_imp (r := OpenLaw.row PySem.Challenge.rw_buybook_k04_written_form_back) (q := view (OpenLaw.row PySem.Challenge.rw_buybook_k04_written_form_back).prog [0, 17]) (H := HT.hk) (ob := HT.ob) (M := 4000) (loose := HT.loose) (d := HandSHeadRun.topDef (OpenLaw.row PySem.Challenge.rw_buybook_k04_written_form_back).prog 17) (kwd := []) HT.ob_eq
    HT.run (by kernel_rfl) (by kernel_rfl) (by kernel_rfl) (by rfl) (by first | assumption | decide +kernel) (by decide +kernel) ⟨rfl, rfl, rfl, rfl, rfl, by decide +kernel⟩ ?hw ?hc
  case hw => w_witness2
  case hc =>
    refine TL.walk_ofW (l := PySem.Challenge.rw_buybook_k04_written_form_back) (n := 63) (k := 7 + 3) (x := "_law_script") rfl (by decide) (by kernel_rfl) ⟨rfl, by decide, by decide⟩ ?F
    intro w mg fa h Y G hmg0
    obtain ⟨K, KX, cd, cx⟩ := Y
    have hmg : mg ("law" : PySem.Str) = some (.ref fa) := by
      have e : (HandSHeadRun.topDef (OpenLaw.row PySem.Challenge.rw_buybook_k04_written_form_back).prog 17).name = ("law" : PySem.Str) := by kernel_rfl
      rw [← e]
      exact hmg0
    have T := HT.tab KX G cd cx
    obtain ⟨fd, sp, h1, h2, h3⟩ := TL.law_fn (Pr := (PySem.Challenge.rw_buybook_k04_written_form_back).prog) (w := w) T (n := 7) (k := 22) (x := "law") (p := "_law_script") rfl rfl hmg TL.hlaw_k04
    exact ⟨K, fd, sp, KX, h1, h2, h3⟩
end
