import PyProof.Rows.All
import Wide.All
import OpenK.AllK
import Wide.FinOn
import HandS.ForMost
import HandS.ForExc
import HandS.Small
import HandS.IsInst
import HandS.Flow
import HandS.NoneIn
import KE.DataEq
import HandS.WordsExc
import HandS.HeadHook1
import HandS.HeadHook2
import HandS.HeadEnd
import KE.KStateDown
import Lean
import HandS.Head0
import HandS.Head1
import HandS.Head2
import PySem.Challenge.RW_hewstream_k95_states_of_reading
set_option Elab.async false
set_option linter.all false
set_option maxRecDepth 100000
set_option maxHeartbeats 4000000
/-! VsA: values seen as data. D: what no longer changes; OD: what a name owns. -/
namespace Vs
open PySem L2

inductive D where
  | non
  | bl (b : Bool)
  | int (i : Int)
  | str (s : Str)
  | tup (xs : List D)
  | lst (xs : List D)
  | rol (xs : List D)
  | dk (ks : List Key) (xs : List D)
  | ins (c : Str) (fs : List Str) (xs : List D)

inductive OD where
  | v (d : D)
  | l (xs : List OD)
  | k (ks : List Key) (xs : List OD)
  | o (c : Str) (fs : List Str) (xs : List OD)

/-- what of the module the readings ask -/
structure Gx where
  K : PySem.W.Frag
  mg : Str → Option Value

abbrev AS := Addr → Prop

section
variable (G : Gx)
mutual
def Rep (F : Hp) : D → V → Prop
  | .non, v => v = .non
  | .bl b, v => v = .bl b
  | .int i, v => v = .int i
  | .str s, v => v = .str s
  | .tup ds, v => ∃ a vs, v = .ref a ∧ SqT G.K F a vs ∧ Reps F ds vs
  | .lst ds, v => ∃ a vs, v = .ref a ∧ F a = some (.lst vs) ∧ Reps F ds vs
  | .rol ds, v => ∃ a vs, v = .ref a ∧ SqL G.K F a vs ∧ Reps F ds vs
  | .dk ks ds, v => ∃ a kvs, v = .ref a ∧ F a = some (.dK kvs) ∧ kvs.map (·.1) = ks ∧ Reps F ds (kvs.map (·.2))
  | .ins c fs ds, v => ∃ a C dx fvs, v = .ref a ∧ G.mg c = some (.ref C) ∧ F a = some (.ins C dx fvs) ∧ fvs.map (·.1) = fs ∧ Reps F ds (fvs.map (·.2))
def Reps (F : Hp) : List D → List V → Prop
  | [], vs => vs = []
  | d :: ds, vs => ∃ v r, vs = v :: r ∧ Rep F d v ∧ Reps F ds r
end
/-- A is made of the two parts A1, A2, that stand apart -/
def Cut (A A1 A2 : AS) : Prop := (∀ a, A a ↔ A1 a ∨ A2 a) ∧ ∀ a, A1 a → ¬ A2 a
mutual
def OT (F H : Hp) : OD → V → AS → Prop
  | .v d, v, A => Rep G F d v ∧ ∀ a, ¬ A a
  | .l xs, v, A => ∃ a vs A', v = .ref a ∧ H a = some (.lst vs) ∧ OTs F H xs vs A' ∧ Cut A (fun b => b = a) A'
  | .k ks xs, v, A => ∃ a kvs A', v = .ref a ∧ H a = some (.dK kvs) ∧ kvs.map (·.1) = ks ∧ OTs F H xs (kvs.map (·.2)) A' ∧ Cut A (fun b => b = a) A'
  | .o c fs xs, v, A => ∃ a C dx fvs A', v = .ref a ∧ G.mg c = some (.ref C) ∧ H a = some (.ins C dx fvs) ∧ fvs.map (·.1) = fs ∧ OTs F H xs (fvs.map (·.2)) A' ∧ Cut A (fun b => b = a) A'
def OTs (F H : Hp) : List OD → List V → AS → Prop
  | [], vs, A => vs = [] ∧ ∀ a, ¬ A a
  | x :: xs, vs, A => ∃ v r A1 A2, vs = v :: r ∧ OT F H x v A1 ∧ OTs F H xs r A2 ∧ Cut A A1 A2
end
end
/-- slots: what is known of them -/
abbrev Env := List (Option OD)
def Sl (G : Gx) (F H : Hp) : Env → St → AS → Prop
  | [], σ, A => σ = [] ∧ ∀ a, ¬ A a
  | none :: ρ, σ, A => ∃ x r, σ = x :: r ∧ Sl G F H ρ r A
  | some od :: ρ, σ, A => ∃ v r A1 A2, σ = some v :: r ∧ OT G F H od v A1 ∧ Sl G F H ρ r A2 ∧ Cut A A1 A2

def Le (F H : Hp) : Prop := ∀ a o, F a = some o → H a = some o
theorem Le.refl (F : Hp) : Le F F := fun _ _ h => h
theorem Le.trans {F G H : Hp} (a : Le F G) (b : Le G H) : Le F H := fun x o h => b x o (a x o h)
theorem Le.rd {F H : Hp} (e : Le F H) {a : Addr} {u : HO} (h : Rd F a u) : Rd H a u := by
  rcases h with h | ⟨o, h⟩
  · exact .inl (e _ _ h)
  · exact .inr ⟨o, e _ _ h⟩
theorem Le.sql {K : PySem.W.Frag} {F H : Hp} (e : Le F H) {a : Addr} {xs : List V} (h : SqL K F a xs) : SqL K H a xs := by
  rcases h with h | h
  · exact .inl (e.rd h)
  · exact .inr h
theorem Le.sqt {K : PySem.W.Frag} {F H : Hp} (e : Le F H) {a : Addr} {xs : List V} (h : SqT K F a xs) : SqT K H a xs := by
  rcases h with h | h
  · exact .inl (e.rd h)
  · exact .inr h
theorem Le.new {H : Hp} {p : Addr} {o : HO} (h : H p = none) : Le H (upd H p o) := fun a u e => by
  rw [upd_ne (ne_of_none e h)]
  exact e
section
variable {G : Gx} {F F' H H' : Hp}
mutual
theorem Rep.mono (e : Le F F') : ∀ {d : D} {v : V}, Rep G F d v → Rep G F' d v
  | .non, _, h => by simpa only [Rep] using h
  | .bl _, _, h => by simpa only [Rep] using h
  | .int _, _, h => by simpa only [Rep] using h
  | .str _, _, h => by simpa only [Rep] using h
  | .tup ds, v, h => by
    simp only [Rep] at h ⊢
    obtain ⟨a, vs, h1, h2, h3⟩ := h
    exact ⟨a, vs, h1, e.sqt h2, Reps.mono e h3⟩
  | .lst ds, v, h => by
    simp only [Rep] at h ⊢
    obtain ⟨a, vs, h1, h2, h3⟩ := h
    exact ⟨a, vs, h1, e _ _ h2, Reps.mono e h3⟩
  | .rol ds, v, h => by
    simp only [Rep] at h ⊢
    obtain ⟨a, vs, h1, h2, h3⟩ := h
    exact ⟨a, vs, h1, e.sql h2, Reps.mono e h3⟩
  | .dk ks ds, v, h => by
    simp only [Rep] at h ⊢
    obtain ⟨a, vs, h1, h2, h4, h3⟩ := h
    exact ⟨a, vs, h1, e _ _ h2, h4, Reps.mono e h3⟩
  | .ins c fs ds, v, h => by
    simp only [Rep] at h ⊢
    obtain ⟨a, C, dx, fvs, h1, h2, h4, h5, h3⟩ := h
    exact ⟨a, C, dx, fvs, h1, h2, e _ _ h4, h5, Reps.mono e h3⟩
theorem Reps.mono (e : Le F F') : ∀ {ds : List D} {vs : List V}, Reps G F ds vs → Reps G F' ds vs
  | [], vs, h => by simpa only [Reps] using h
  | d :: ds, vs, h => by
    simp only [Reps] at h ⊢
    obtain ⟨v, r, h1, h2, h3⟩ := h
    exact ⟨v, r, h1, Rep.mono e h2, Reps.mono e h3⟩
end
theorem Reps.len : ∀ {ds : List D} {vs : List V}, Reps G F ds vs → vs.length = ds.length
  | [], vs, h => by simp only [Reps] at h; subst h; rfl
  | d :: ds, vs, h => by
    simp only [Reps] at h
    obtain ⟨v, r, rfl, _, h3⟩ := h
    simp [Reps.len h3]
theorem Reps.get : ∀ {ds : List D} {vs : List V} {i : Nat} {d : D}, Reps G F ds vs → ds[i]? = some d → ∃ v, vs[i]? = some v ∧ Rep G F d v
  | [], _, _, _, _, e => by simp at e
  | x :: ds, vs, 0, d, h, e => by
    simp only [Reps] at h
    obtain ⟨v, r, rfl, h2, _⟩ := h
    simp at e; subst e
    exact ⟨v, rfl, h2⟩
  | x :: ds, vs, i + 1, d, h, e => by
    simp only [Reps] at h
    obtain ⟨v, r, rfl, _, h3⟩ := h
    obtain ⟨v', e1, e2⟩ := Reps.get (i := i) h3 (by simpa using e)
    exact ⟨v', by simpa using e1, e2⟩
theorem Reps.append : ∀ {ds es : List D} {vs ws : List V}, Reps G F ds vs → Reps G F es ws → Reps G F (ds ++ es) (vs ++ ws)
  | [], es, vs, ws, h, k => by simp only [Reps] at h; subst h; exact k
  | d :: ds, es, vs, ws, h, k => by
    simp only [Reps] at h
    obtain ⟨v, r, rfl, h2, h3⟩ := h
    show Reps G F (d :: (ds ++ es)) _
    simp only [Reps]
    exact ⟨v, r ++ ws, rfl, h2, Reps.append h3 k⟩
theorem Reps.take : ∀ {ds : List D} {vs : List V} (n : Nat), Reps G F ds vs → Reps G F (ds.take n) (vs.take n)
  | _, _, 0, _ => by simp [Reps]
  | [], vs, n + 1, h => by simp only [Reps] at h; subst h; simp [Reps]
  | d :: ds, vs, n + 1, h => by
    simp only [Reps] at h
    obtain ⟨v, r, rfl, h2, h3⟩ := h
    simp only [List.take_succ_cons, Reps]
    exact ⟨v, r.take n, rfl, h2, Reps.take n h3⟩
theorem Reps.drop : ∀ {ds : List D} {vs : List V} (n : Nat), Reps G F ds vs → Reps G F (ds.drop n) (vs.drop n)
  | _, _, 0, h => h
  | [], vs, n + 1, h => by simp only [Reps] at h; subst h; simp [Reps]
  | d :: ds, vs, n + 1, h => by
    simp only [Reps] at h
    obtain ⟨v, r, rfl, h2, h3⟩ := h
    simp only [List.drop_succ_cons]
    exact Reps.drop n h3
theorem Reps.one {d : D} {v : V} (h : Rep G F d v) : Reps G F [d] [v] := by
  simp only [Reps]; exact ⟨v, [], rfl, h, rfl⟩
theorem Reps.cons {d : D} {ds : List D} {v : V} {vs : List V} (h : Rep G F d v) (r : Reps G F ds vs) : Reps G F (d :: ds) (v :: vs) := by
  simp only [Reps]; exact ⟨v, vs, rfl, h, r⟩
theorem Reps.nil : Reps G F [] [] := by simp [Reps]
theorem Reps.map {α : Type} {f : α → D} {g : α → V} : ∀ {xs : List α}, (∀ x ∈ xs, Rep G F (f x) (g x)) → Reps G F (xs.map f) (xs.map g)
  | [], _ => .nil
  | x :: xs, h => .cons (h x List.mem_cons_self) (Reps.map fun y hy => h y (List.mem_cons_of_mem _ hy))

/-! ### parts -/
theorem Cut.symm {A B C : AS} (h : Cut A B C) : Cut A C B := ⟨fun a => by rw [h.1 a]; exact or_comm, fun a c b => h.2 a b c⟩
theorem Cut.l {A B C : AS} (h : Cut A B C) {a : Addr} (b : B a) : A a := (h.1 a).2 (.inl b)
theorem Cut.r {A B C : AS} (h : Cut A B C) {a : Addr} (c : C a) : A a := (h.1 a).2 (.inr c)
theorem Cut.mk' (B C : AS) (h : ∀ a, B a → ¬ C a) : Cut (fun a => B a ∨ C a) B C := ⟨fun _ => Iff.rfl, h⟩
theorem Cut.nil_l {A B : AS} (h : ∀ a, ¬ B a) : Cut A B A := ⟨fun a => ⟨.inr, fun x => x.elim (fun z => (h a z).elim) id⟩, fun a b => (h a b).elim⟩
theorem Cut.nil_r {A B : AS} (h : ∀ a, ¬ B a) : Cut A A B := (Cut.nil_l h).symm
/-- (B C) D = B (C D) -/
theorem Cut.assoc {A X B C E : AS} (h : Cut A X E) (k : Cut X B C) : ∃ Y, Cut A B Y ∧ Cut Y C E := by
  refine ⟨fun a => C a ∨ E a, ⟨fun a => ?_, fun a b y => ?_⟩, ⟨fun a => Iff.rfl, fun a c e => h.2 a ((k.1 a).2 (.inr c)) e⟩⟩
  · rw [h.1 a, k.1 a]; exact or_assoc
  · rcases y with c | e
    · exact k.2 a b c
    · exact h.2 a ((k.1 a).2 (.inl b)) e
theorem Cut.assoc' {A X B C E : AS} (h : Cut A B X) (k : Cut X C E) : ∃ Y, Cut A Y E ∧ Cut Y B C := by
  obtain ⟨Y, h1, h2⟩ := h.symm.assoc k.symm
  exact ⟨Y, h1.symm, h2.symm⟩
theorem Cut.sub {A B C : AS} (h : Cut A B C) : ∀ a, B a → A a := fun _ b => h.l b
mutual
/-- what is owned stays, as long as its own objects stay -/
theorem OT.mono (e : Le F F') : ∀ {od : OD} {v : V} {A : AS}, OT G F H od v A → (∀ a, A a → H' a = H a) → OT G F' H' od v A
  | .v d, v, A, h, k => by
    simp only [OT] at h ⊢
    exact ⟨h.1.mono e, h.2⟩
  | .l xs, v, A, h, k => by
    simp only [OT] at h ⊢
    obtain ⟨a, vs, A', h1, h2, h3, c⟩ := h
    exact ⟨a, vs, A', h1, (k a (c.l rfl)).trans h2, OTs.mono e h3 (fun b hb => k b (c.r hb)), c⟩
  | .k ks xs, v, A, h, k => by
    simp only [OT] at h ⊢
    obtain ⟨a, kvs, A', h1, h2, hk, h3, c⟩ := h
    exact ⟨a, kvs, A', h1, (k a (c.l rfl)).trans h2, hk, OTs.mono e h3 (fun b hb => k b (c.r hb)), c⟩
  | .o cn fs xs, v, A, h, k => by
    simp only [OT] at h ⊢
    obtain ⟨a, C, dx, fvs, A', h1, hm, h2, hk, h3, c⟩ := h
    exact ⟨a, C, dx, fvs, A', h1, hm, (k a (c.l rfl)).trans h2, hk, OTs.mono e h3 (fun b hb => k b (c.r hb)), c⟩
theorem OTs.mono (e : Le F F') : ∀ {xs : List OD} {vs : List V} {A : AS}, OTs G F H xs vs A → (∀ a, A a → H' a = H a) → OTs G F' H' xs vs A
  | [], vs, A, h, k => by simpa only [OTs] using h
  | x :: xs, vs, A, h, k => by
    simp only [OTs] at h ⊢
    obtain ⟨v, r, A1, A2, h1, h2, h3, c⟩ := h
    exact ⟨v, r, A1, A2, h1, OT.mono e h2 (fun a ha => k a (c.l ha)), OTs.mono e h3 (fun a ha => k a (c.r ha)), c⟩
end
mutual
theorem OT.there : ∀ {od : OD} {v : V} {A : AS}, OT G F H od v A → ∀ a, A a → ∃ o, H a = some o
  | .v d, v, A, h, a, ha => by
    simp only [OT] at h
    exact (h.2 a ha).elim
  | .l xs, v, A, h, a, ha => by
    simp only [OT] at h
    obtain ⟨b, vs, A', h1, h2, h3, c⟩ := h
    rcases (c.1 a).1 ha with rfl | z
    · exact ⟨_, h2⟩
    · exact OTs.there h3 a z
  | .k ks xs, v, A, h, a, ha => by
    simp only [OT] at h
    obtain ⟨b, vs, A', h1, h2, hk, h3, c⟩ := h
    rcases (c.1 a).1 ha with rfl | z
    · exact ⟨_, h2⟩
    · exact OTs.there h3 a z
  | .o cn fs xs, v, A, h, a, ha => by
    simp only [OT] at h
    obtain ⟨b, C, dx, fvs, A', h1, hm, h2, hk, h3, c⟩ := h
    rcases (c.1 a).1 ha with rfl | z
    · exact ⟨_, h2⟩
    · exact OTs.there h3 a z
theorem OTs.there : ∀ {xs : List OD} {vs : List V} {A : AS}, OTs G F H xs vs A → ∀ a, A a → ∃ o, H a = some o
  | [], vs, A, h, a, ha => by
    simp only [OTs] at h
    exact (h.2 a ha).elim
  | x :: xs, vs, A, h, a, ha => by
    simp only [OTs] at h
    obtain ⟨v, r, A1, A2, h1, h2, h3, c⟩ := h
    rcases (c.1 a).1 ha with z | z
    · exact OT.there h2 a z
    · exact OTs.there h3 a z
end
/-! ### freezing: all of it becomes data -/
mutual
def OD.fz : OD → D
  | .v d => d
  | .l xs => .lst (OD.fzs xs)
  | .k ks xs => .dk ks (OD.fzs xs)
  | .o c fs xs => .ins c fs (OD.fzs xs)
def OD.fzs : List OD → List D
  | [] => []
  | x :: xs => x.fz :: OD.fzs xs
end
theorem OD.fzs_map : ∀ xs : List OD, OD.fzs xs = xs.map OD.fz
  | [] => by simp [OD.fzs]
  | x :: xs => by simp [OD.fzs, OD.fzs_map xs]
mutual
theorem OT.rep (e : Le F F') : ∀ {od : OD} {v : V} {A : AS}, OT G F H od v A → (∀ a, A a → F' a = H a) → Rep G F' od.fz v
  | .v d, v, A, h, k => by
    simp only [OT, OD.fz] at h ⊢
    exact h.1.mono e
  | .l xs, v, A, h, k => by
    simp only [OT, OD.fz, Rep] at h ⊢
    obtain ⟨a, vs, A', h1, h2, h3, c⟩ := h
    exact ⟨a, vs, h1, (k a (c.l rfl)).trans h2, OTs.rep e h3 (fun b hb => k b (c.r hb))⟩
  | .k ks xs, v, A, h, k => by
    simp only [OT, OD.fz, Rep] at h ⊢
    obtain ⟨a, kvs, A', h1, h2, hk, h3, c⟩ := h
    exact ⟨a, kvs, h1, (k a (c.l rfl)).trans h2, hk, OTs.rep e h3 (fun b hb => k b (c.r hb))⟩
  | .o cn fs xs, v, A, h, k => by
    simp only [OT, OD.fz, Rep] at h ⊢
    obtain ⟨a, C, dx, fvs, A', h1, hm, h2, hk, h3, c⟩ := h
    exact ⟨a, C, dx, fvs, h1, hm, (k a (c.l rfl)).trans h2, hk, OTs.rep e h3 (fun b hb => k b (c.r hb))⟩
theorem OTs.rep (e : Le F F') : ∀ {xs : List OD} {vs : List V} {A : AS}, OTs G F H xs vs A → (∀ a, A a → F' a = H a) → Reps G F' (OD.fzs xs) vs
  | [], vs, A, h, k => by
    simp only [OTs, OD.fzs, Reps] at h ⊢
    exact h.1
  | x :: xs, vs, A, h, k => by
    simp only [OTs, OD.fzs, Reps] at h ⊢
    obtain ⟨v, r, A1, A2, h1, h2, h3, c⟩ := h
    exact ⟨v, r, h1, OT.rep e h2 (fun a ha => k a (c.l ha)), OTs.rep e h3 (fun a ha => k a (c.r ha))⟩
end
end
end Vs
/-! VsB: states, steps, the readings of expressions. -/
namespace Vs
open PySem L2
section
variable {G : Gx} {F F' F1 F2 F3 H H' H1 H2 H3 : Hp} {A A' A1 A2 A3 : AS} {ρ ρ' κ : Env} {σ ς : St}

theorem Sl.len : ∀ {ρ : Env} {σ : St} {A : AS}, Sl G F H ρ σ A → σ.length = ρ.length
  | [], σ, A, h => by simp only [Sl] at h; rw [h.1]; rfl
  | none :: ρ, σ, A, h => by
    simp only [Sl] at h
    obtain ⟨x, r, rfl, h⟩ := h
    simp [Sl.len h]
  | some od :: ρ, σ, A, h => by
    simp only [Sl] at h
    obtain ⟨v, r, A1, A2, rfl, _, h, _⟩ := h
    simp [Sl.len h]
theorem Sl.mono (e : Le F F') : ∀ {ρ : Env} {σ : St} {A : AS}, Sl G F H ρ σ A → (∀ a, A a → H' a = H a) → Sl G F' H' ρ σ A
  | [], σ, A, h, k => by simpa only [Sl] using h
  | none :: ρ, σ, A, h, k => by
    simp only [Sl] at h ⊢
    obtain ⟨x, r, h1, h⟩ := h
    exact ⟨x, r, h1, Sl.mono e h k⟩
  | some od :: ρ, σ, A, h, k => by
    simp only [Sl] at h ⊢
    obtain ⟨v, r, A1, A2, h1, h2, h3, c⟩ := h
    exact ⟨v, r, A1, A2, h1, h2.mono e (fun a ha => k a (c.l ha)), Sl.mono e h3 (fun a ha => k a (c.r ha)), c⟩
theorem Sl.there : ∀ {ρ : Env} {σ : St} {A : AS}, Sl G F H ρ σ A → ∀ a, A a → ∃ o, H a = some o
  | [], σ, A, h, a, ha => by simp only [Sl] at h; exact (h.2 a ha).elim
  | none :: ρ, σ, A, h, a, ha => by
    simp only [Sl] at h
    obtain ⟨x, r, h1, h⟩ := h
    exact Sl.there h a ha
  | some od :: ρ, σ, A, h, a, ha => by
    simp only [Sl] at h
    obtain ⟨v, r, A1, A2, h1, h2, h3, c⟩ := h
    rcases (c.1 a).1 ha with z | z
    · exact h2.there a z
    · exact Sl.there h3 a z
theorem Sl.app : ∀ {κ ρ : Env} {ς σ : St} {A : AS}, ς.length = κ.length → Sl G F H (κ ++ ρ) (ς ++ σ) A → ∃ A1 A2, Sl G F H κ ς A1 ∧ Sl G F H ρ σ A2 ∧ Cut A A1 A2
  | [], ρ, ς, σ, A, hl, h => by
    cases ς with
    | nil => exact ⟨fun _ => False, A, by simp [Sl], h, .nil_l fun _ z => z⟩
    | cons => simp at hl
  | none :: κ, ρ, ς, σ, A, hl, h => by
    cases ς with
    | nil => simp at hl
    | cons s ς =>
      simp only [List.cons_append, Sl] at h
      obtain ⟨x, r, e, h⟩ := h
      injection e with e1 e2
      subst e1 e2
      obtain ⟨A1, A2, h1, h2, c⟩ := Sl.app (by simpa using hl) h
      exact ⟨A1, A2, by simp only [Sl]; exact ⟨_, _, rfl, h1⟩, h2, c⟩
  | some od :: κ, ρ, ς, σ, A, hl, h => by
    cases ς with
    | nil => simp at hl
    | cons s ς =>
      simp only [List.cons_append, Sl] at h
      obtain ⟨v, r, B1, B2, e, hv, h, c⟩ := h
      injection e with e1 e2
      subst e1 e2
      obtain ⟨A1, A2, h1, h2, c2⟩ := Sl.app (by simpa using hl) h
      obtain ⟨Y, c3, c4⟩ := c.assoc' c2
      exact ⟨Y, A2, by simp only [Sl]; exact ⟨_, _, _, _, rfl, hv, h1, c4⟩, h2, c3⟩
theorem Sl.join : ∀ {κ ρ : Env} {ς σ : St} {A A1 A2 : AS}, Sl G F H κ ς A1 → Sl G F H ρ σ A2 → Cut A A1 A2 → Sl G F H (κ ++ ρ) (ς ++ σ) A
  | [], ρ, ς, σ, A, A1, A2, h1, h2, c => by
    simp only [Sl] at h1
    obtain ⟨rfl, hn⟩ := h1
    have : A = A2 := by
      funext a
      exact propext ⟨fun z => ((c.1 a).1 z).elim (fun y => (hn a y).elim) id, c.r⟩
    subst this
    exact h2
  | none :: κ, ρ, ς, σ, A, A1, A2, h1, h2, c => by
    simp only [Sl, List.cons_append] at h1 ⊢
    obtain ⟨x, r, rfl, h⟩ := h1
    exact ⟨x, r ++ σ, rfl, Sl.join h h2 c⟩
  | some od :: κ, ρ, ς, σ, A, A1, A2, h1, h2, c => by
    simp only [Sl, List.cons_append] at h1 ⊢
    obtain ⟨v, r, B1, B2, rfl, hv, h, c1⟩ := h1
    obtain ⟨Y, c3, c4⟩ := c.assoc c1
    exact ⟨v, r ++ σ, B1, Y, rfl, hv, Sl.join h h2 c4, c3⟩
/-- a slot apart from the others -/
theorem Sl.at : ∀ {ρ : Env} {σ : St} {A : AS} {i : Nat} {od : OD}, Sl G F H ρ σ A → ρ[i]? = some (some od) → ∃ v A1 A2, σ[i]? = some (some v) ∧ OT G F H od v A1 ∧ Sl G F H (ρ.set i none) σ A2 ∧ Cut A A1 A2
  | [], σ, A, i, od, h, e => by simp at e
  | none :: ρ, σ, A, 0, od, h, e => by simp at e
  | some x :: ρ, σ, A, 0, od, h, e => by
    simp only [Sl] at h
    obtain ⟨v, r, A1, A2, rfl, h1, h2, c⟩ := h
    simp at e; subst e
    exact ⟨v, A1, A2, rfl, h1, by simp only [List.set_cons_zero, Sl]; exact ⟨_, _, rfl, h2⟩, c⟩
  | none :: ρ, σ, A, i + 1, od, h, e => by
    simp only [Sl] at h
    obtain ⟨x, r, rfl, h⟩ := h
    obtain ⟨v, A1, A2, e1, h1, h2, c⟩ := Sl.at (i := i) h (by simpa using e)
    exact ⟨v, A1, A2, by simpa using e1, h1, by simp only [List.set_cons_succ, Sl]; exact ⟨_, _, rfl, h2⟩, c⟩
  | some y :: ρ, σ, A, i + 1, od, h, e => by
    simp only [Sl] at h
    obtain ⟨x, r, B1, B2, rfl, hx, h, c0⟩ := h
    obtain ⟨v, A1, A2, e1, h1, h2, c⟩ := Sl.at (i := i) h (by simpa using e)
    obtain ⟨Y, c3, c4⟩ := c0.symm.assoc c
    exact ⟨v, A1, Y, by simpa using e1, h1, by simp only [List.set_cons_succ, Sl]; exact ⟨_, _, _, _, rfl, hx, h2, c4.symm⟩, c3⟩
/-- a slot that is filled -/
theorem Sl.put : ∀ {ρ : Env} {σ : St} {A A1 A2 : AS} {i : Nat} {v : V} {od : OD}, Sl G F H ρ σ A2 → ρ[i]? = some none → σ[i]? = some (some v) → OT G F H od v A1 → Cut A A1 A2 → Sl G F H (ρ.set i (some od)) σ A
  | [], σ, A, A1, A2, i, v, od, h, e, _, _, _ => by simp at e
  | some x :: ρ, σ, A, A1, A2, 0, v, od, h, e, _, _, _ => by simp at e
  | none :: ρ, σ, A, A1, A2, 0, v, od, h, e, es, ho, c => by
    simp only [Sl] at h
    obtain ⟨x, r, rfl, h⟩ := h
    simp at es; subst es
    simp only [List.set_cons_zero, Sl]
    exact ⟨_, _, _, _, rfl, ho, h, c⟩
  | none :: ρ, σ, A, A1, A2, i + 1, v, od, h, e, es, ho, c => by
    simp only [Sl] at h
    obtain ⟨x, r, rfl, h⟩ := h
    simp only [List.set_cons_succ, Sl]
    exact ⟨_, _, rfl, Sl.put h (by simpa using e) (by simpa using es) ho c⟩
  | some y :: ρ, σ, A, A1, A2, i + 1, v, od, h, e, es, ho, c => by
    simp only [Sl] at h
    obtain ⟨x, r, B1, B2, rfl, hx, h, c0⟩ := h
    simp only [List.set_cons_succ, Sl]
    obtain ⟨Y, c3, c4⟩ := c.symm.assoc c0
    exact ⟨_, _, _, _, rfl, hx, Sl.put h (by simpa using e) (by simpa using es) ho c4.symm, c3⟩
/-- a value in σ that nothing is said of -/
theorem Sl.free : ∀ {ρ : Env} {σ : St} {A : AS} {i : Nat} {x : Option V}, Sl G F H ρ σ A → ρ[i]? = some none → Sl G F H ρ (σ.set i x) A
  | [], σ, A, i, x, h, e => by simp at e
  | some y :: ρ, σ, A, 0, x, h, e => by simp at e
  | none :: ρ, σ, A, 0, x, h, e => by
    simp only [Sl] at h ⊢
    obtain ⟨y, r, rfl, h⟩ := h
    exact ⟨_, _, rfl, h⟩
  | none :: ρ, σ, A, i + 1, x, h, e => by
    simp only [Sl] at h ⊢
    obtain ⟨y, r, rfl, h⟩ := h
    exact ⟨_, _, rfl, Sl.free h (by simpa using e)⟩
  | some z :: ρ, σ, A, i + 1, x, h, e => by
    simp only [Sl] at h ⊢
    obtain ⟨y, r, B1, B2, rfl, hx, h, c⟩ := h
    exact ⟨_, _, _, _, rfl, hx, Sl.free h (by simpa using e), c⟩
/-- a slot forgotten -/
theorem Sl.drop {i : Nat} (h : Sl G F H ρ σ A) : ∃ A', Sl G F H (ρ.set i none) σ A' ∧ ∀ a, A' a → A a := by
  cases e : ρ[i]? with
  | none =>
    refine ⟨A, ?_, fun _ h => h⟩
    rw [List.set_eq_of_length_le (by simpa using e)]
    exact h
  | some x =>
    cases x with
    | none =>
      refine ⟨A, ?_, fun _ h => h⟩
      have : ρ.set i none = ρ := by
        apply List.ext_getElem?
        intro j
        by_cases hj : i = j
        · subst hj
          rw [List.getElem?_set_self (by have := (List.getElem?_eq_some_iff.mp e).1; exact this)]
          exact e.symm
        · rw [List.getElem?_set_ne hj]
      rw [this]
      exact h
    | some od =>
      obtain ⟨v, A1, A2, _, _, h2, c⟩ := h.at e
      exact ⟨A2, h2, fun a ha => c.r ha⟩

structure Stt (G : Gx) (F H : Hp) (ρ : Env) (σ : St) (A : AS) : Prop where
  le : Le F H
  sl : Sl G F H ρ σ A
  fr : ∀ a, A a → F a = none
/-- a step: p tells that no tracked object changed -/
structure Go (p : Bool) (F H : Hp) (A : AS) (F' H' : Hp) (A' : AS) : Prop where
  le : Le F F'
  keep : ∀ a o, H a = some o → ¬ (p = false ∧ A a) → H' a = some o
  sub : ∀ a, A' a → A a ∨ H a = none
  nf : ∀ a o, F' a = some o → F a = some o ∨ A a ∨ H a = none
theorem Go.refl {p : Bool} : Go p F H A F H A := ⟨.refl _, fun _ _ h _ => h, fun _ h => .inl h, fun _ _ h => .inl h⟩
theorem Go.less {p : Bool} (g : Go p F H A F' H' A1) (h : ∀ a, A2 a → A1 a) : Go p F H A F' H' A2 := ⟨g.le, g.keep, fun a ha => g.sub a (h a ha), g.nf⟩
theorem Go.imp {p q : Bool} (g : Go p F H A F' H' A') (h : q = true → p = true) : Go q F H A F' H' A' :=
  ⟨g.le, fun a o e n => g.keep a o e fun z => n ⟨by cases q with
    | true => rw [h rfl] at z; exact z.1
    | false => rfl, z.2⟩, g.sub, g.nf⟩
theorem Go.back {p : Bool} (g : Go p F H A F' H' A') {a : Addr} (h : A' a ∨ H' a = none) : A a ∨ H a = none := by
  rcases h with h | h
  · exact g.sub a h
  · cases e : H a with
    | none => exact .inr rfl
    | some o =>
      by_cases hA : A a
      · exact .inl hA
      · have := g.keep a o e fun z => hA z.2
        rw [this] at h; cases h
theorem Go.trans {p q : Bool} (g : Go p F H A F1 H1 A1) (g2 : Go q F1 H1 A1 F2 H2 A2) : Go (p && q) F H A F2 H2 A2 where
  le := g.le.trans g2.le
  keep := fun a o e n => by
    have e1 : H1 a = some o := g.keep a o e fun z => n ⟨by rw [z.1]; rfl, z.2⟩
    refine g2.keep a o e1 fun z => n ⟨by rw [z.1]; simp, ?_⟩
    rcases g.sub a z.2 with h | h
    · exact h
    · rw [h] at e; cases e
  sub := fun a ha => g.back (g2.sub a ha)
  nf := fun a o e => (g2.nf a o e).elim (g.nf a o) fun h => .inr (g.back h)
/-- nothing tracked changed, new things came -/
structure New (F H F' H' : Hp) : Prop where
  lf : Le F F'
  lh : Le H H'
  le : Le F' H'
  nw : ∀ a o, F' a = some o → F a = some o ∨ H a = none
theorem New.refl (h : Le F H) : New F H F H := ⟨.refl _, .refl _, h, fun _ _ e => .inl e⟩
theorem New.trans (a : New F H F1 H1) (b : New F1 H1 F2 H2) : New F H F2 H2 := ⟨a.lf.trans b.lf, a.lh.trans b.lh, b.le, fun x o e => by
  rcases b.nw x o e with h | h
  · exact a.nw x o h
  · right
    cases q : H x with
    | none => rfl
    | some u => rw [a.lh x u q] at h; cases h⟩
/-- a new object, frozen -/
theorem New.frz {p : Addr} {o : HO} (h : Le F H) (hp : H p = none) : New F H (upd F p o) (upd H p o) := by
  have hF : F p = none := by
    cases q : F p with
    | none => rfl
    | some u => rw [h p u q] at hp; cases hp
  refine ⟨.new hF, .new hp, fun a u e => ?_, fun a u e => ?_⟩
  · by_cases ha : a = p
    · subst ha; rw [upd_same] at e ⊢; exact e
    · rw [upd_ne ha] at e ⊢; exact h a u e
  · by_cases ha : a = p
    · subst ha; exact .inr hp
    · rw [upd_ne ha] at e; exact .inl e
theorem New.own {p : Addr} {o : HO} (h : Le F H) (hp : H p = none) : New F H F (upd H p o) := ⟨.refl _, .new hp, h.trans (.new hp), fun _ _ e => .inl e⟩
theorem Stt.new (S : Stt G F H ρ σ A) (n : New F H F' H') : Stt G F' H' ρ σ A where
  le := n.le
  sl := S.sl.mono n.lf fun a ha => by
    obtain ⟨o, e⟩ := S.sl.there a ha
    rw [e]; exact n.lh a o e
  fr := fun a ha => by
    cases q : F' a with
    | none => rfl
    | some o =>
      rcases n.nw a o q with h | h
      · rw [S.fr a ha] at h; cases h
      · obtain ⟨o', e⟩ := S.sl.there a ha
        rw [e] at h; cases h
theorem New.go {p : Bool} (n : New F H F' H') : Go p F H A F' H' A := ⟨n.lf, fun a o e _ => n.lh a o e, fun _ h => .inl h, fun a o e => (n.nw a o e).elim .inl fun h => .inr (.inr h)⟩
/-- a new value on the stack -/
theorem Stt.push {od : OD} {v : V} {B : AS} (S : Stt G F H ρ σ A) (h : OT G F H od v B) (hB : ∀ a, B a → F a = none ∧ ¬ A a) : ∃ A', Stt G F H (some od :: ρ) (some v :: σ) A' ∧ ∀ a, A' a ↔ B a ∨ A a :=
  ⟨fun a => B a ∨ A a, ⟨S.le, by simp only [Sl]; exact ⟨_, _, _, _, rfl, h, S.sl, .mk' _ _ fun a b => (hB a b).2⟩, fun a ha => ha.elim (fun b => (hB a b).1) (S.fr a)⟩, fun _ => Iff.rfl⟩
theorem Stt.push_v {d : D} {v : V} (S : Stt G F H ρ σ A) (h : Rep G F d v) : Stt G F H (some (.v d) :: ρ) (some v :: σ) A :=
  ⟨S.le, by simp only [Sl, OT]; exact ⟨_, _, fun _ => False, A, rfl, ⟨h, fun _ z => z⟩, S.sl, .nil_l fun _ z => z⟩, S.fr⟩
theorem Stt.pop {od : OD} {v : V} (S : Stt G F H (some od :: ρ) (some v :: σ) A) : ∃ B A', OT G F H od v B ∧ Stt G F H ρ σ A' ∧ Cut A B A' ∧ (∀ a, B a → F a = none) := by
  obtain ⟨le, sl, fr⟩ := S
  simp only [Sl] at sl
  obtain ⟨w, r, B, A', e, h1, h2, c⟩ := sl
  injection e with e1 e2
  injection e1 with e1
  subst e1 e2
  exact ⟨B, A', h1, ⟨le, h2, fun a ha => fr a (c.r ha)⟩, c, fun a ha => fr a (c.l ha)⟩
theorem Stt.pop_v {d : D} {v : V} (S : Stt G F H (some (.v d) :: ρ) (some v :: σ) A) : Rep G F d v ∧ Stt G F H ρ σ A := by
  obtain ⟨B, A', h1, h2, c, _⟩ := S.pop
  simp only [OT] at h1
  have : A' = A := by
    funext a
    exact propext ⟨c.r, fun z => ((c.1 a).1 z).elim (fun b => (h1.2 a b).elim) id⟩
  subst this
  exact ⟨h1.1, h2⟩
theorem Stt.pop_n {x : Option V} (S : Stt G F H (none :: ρ) (x :: σ) A) : Stt G F H ρ σ A := by
  obtain ⟨le, sl, fr⟩ := S
  simp only [Sl] at sl
  obtain ⟨w, r, e, h⟩ := sl
  injection e with e1 e2
  subst e1 e2
  exact ⟨le, h, fr⟩
theorem Stt.push_n {x : Option V} (S : Stt G F H ρ σ A) : Stt G F H (none :: ρ) (x :: σ) A :=
  ⟨S.le, by simp only [Sl]; exact ⟨_, _, rfl, S.sl⟩, S.fr⟩
/-- what is owned at B becomes data -/
noncomputable def fzH (F H : Hp) (B : AS) : Hp := by
  classical exact fun a => if B a then H a else F a
theorem fzH_in {B : AS} {a : Addr} (h : B a) : fzH F H B a = H a := by unfold fzH; rw [if_pos h]
theorem fzH_out {B : AS} {a : Addr} (h : ¬ B a) : fzH F H B a = F a := by unfold fzH; rw [if_neg h]
theorem fzH_le {B : AS} (hB : ∀ a, B a → F a = none) : Le F (fzH F H B) := fun a o e => by
  by_cases h : B a
  · rw [hB a h] at e; cases e
  · rw [fzH_out h]; exact e
theorem fzH_leH {B : AS} (l : Le F H) : Le (fzH F H B) H := fun a o e => by
  by_cases h : B a
  · rw [fzH_in h] at e; exact e
  · rw [fzH_out h] at e; exact l a o e
theorem Stt.frz {od : OD} {v : V} {p : Bool} (S : Stt G F H (some od :: ρ) (some v :: σ) A) : ∃ F' A', Rep G F' od.fz v ∧ Stt G F' H ρ σ A' ∧ Go p F H A F' H A' ∧ Le F F' := by
  obtain ⟨B, A', h1, h2, c, hB⟩ := S.pop
  have l := fzH_le (H := H) hB
  refine ⟨fzH F H B, A', h1.rep l fun a ha => fzH_in ha, ⟨fzH_leH S.le, h2.sl.mono l fun _ _ => rfl, fun a ha => ?_⟩, ⟨l, fun _ _ e _ => e, fun a ha => .inl (c.r ha), fun a o e => by
    by_cases hb : B a
    · exact .inr (.inl (c.l hb))
    · rw [fzH_out hb] at e; exact .inl e⟩, l⟩
  rw [fzH_out fun b => c.2 a b ha]
  exact h2.fr a ha
end
/-! ### the functions that the readings follow -/
structure XV where
  cls : Str
  fs : List Str
  vs : List D
inductive Out (α : Type) where
  | ok (a : α) (ρ : Env)
  | exc (x : XV) (ρ : Env)
  | stuck
abbrev M (α : Type) := Env → Out α
def Out.bind {α β : Type} (o : Out α) (k : α → M β) : Out β := match o with
  | .ok a ρ => k a ρ
  | .exc x ρ => .exc x ρ
  | .stuck => .stuck
@[simp] theorem Out.bind_ok {α β : Type} (a : α) (ρ : Env) (k : α → M β) : (Out.ok a ρ).bind k = k a ρ := rfl
@[simp] theorem Out.bind_exc {α β : Type} (x : XV) (ρ : Env) (k : α → M β) : (Out.exc x ρ).bind k = .exc x ρ := rfl
@[simp] theorem Out.bind_stuck {α β : Type} (k : α → M β) : (Out.stuck).bind k = .stuck := rfl
/-- an exception as it is met -/
def XRep (G : Gx) (F H : Hp) (x : XV) (cls : Value) (d : Option Addr) : Prop :=
  ∃ C, G.mg x.cls = some (.ref C) ∧ cls = .ref C ∧ ((d = none ∧ x.fs = [] ∧ x.vs = []) ∨ ∃ dd fvs, d = some dd ∧ H dd = some (.xd fvs) ∧ fvs.map (·.1) = x.fs ∧ Reps G F x.vs (fvs.map (·.2)))
/-- what is shown behind: α's content by Psh, pushed on the stack -/
def Pst {α : Type} (G : Gx) (W : WX) (p : Bool) (o : Out α) (F H : Hp) (A : AS) (κ : Env) (ς σ : St) (K : α → Env → Prop) : Prop := match o with
  | .ok a ρ' => K a ρ'
  | .exc x ρ' => ∀ F' H' A' cls d, Go false F H A F' H' A' → Stt G F' H' (κ ++ ρ') (ς ++ σ) A' → XRep G F' H' x cls d → W cls d σ H'
  | .stuck => False
def TX (G : Gx) (W : WX) (p : Bool) (f : M OD) : TE := fun σ H Q => ∃ F ρ A κ ς, Stt G F H (κ ++ ρ) (ς ++ σ) A ∧ ς.length = κ.length ∧
  Pst G W p (f ρ) F H A κ ς σ fun od ρ' => ∀ F' H' v A', Go p F H A F' H' A' → Stt G F' H' (some od :: (κ ++ ρ')) (some v :: (ς ++ σ)) A' → Q v H'
theorem TX.mono {G : Gx} {W : WX} {p : Bool} {f : M OD} {σ : St} {H : Hp} {Q Q' : VK} (h : TX G W p f σ H Q) (k : ∀ v H, Q v H → Q' v H) : TX G W p f σ H Q' := by
  obtain ⟨F, ρ, A, κ, ς, S, hl, h⟩ := h
  refine ⟨F, ρ, A, κ, ς, S, hl, ?_⟩
  cases e : f ρ with
  | ok od ρ' => rw [e] at h; exact fun F' H' v A' g S' => k _ _ (h F' H' v A' g S')
  | exc x ρ' => rw [e] at h; exact h
  | stuck => rw [e] at h; exact h
abbrev SX (X : Cx) (G : Gx) (W : WX) (p : Bool) (e : Expr) (f : M OD) : Prop := PE X e (TX G W p f)
theorem PE.of {X : Cx} {e : Expr} {t t' : TE} (h : PE X e t) (k : ∀ σ H Q, t' σ H Q → t σ H Q) : PE X e t' := ⟨fun pins s σ H Q I q => h.run pins s σ H Q I (k σ H Q q)⟩
theorem PT.of {X : Cx} {e : Expr} {t t' : TT} (h : PT X e t) (k : ∀ σ H Q, t' σ H Q → t σ H Q) : PT X e t' := ⟨fun pins s σ H Q I q => h.run pins s σ H Q I (k σ H Q q)⟩
theorem PS.of {X : Cx} {e : Stmt} {t t' : TS} (h : PS X e t) (k : ∀ D σ H, t' D σ H → t D σ H) : PS X e t' := ⟨fun pins s σ H Q I q => h.run pins s σ H Q I (k Q σ H q)⟩
theorem PSs.of {X : Cx} {e : List Stmt} {t t' : TS} (h : PSs X e t) (k : ∀ D σ H, t' D σ H → t D σ H) : PSs X e t' := ⟨fun pins s σ H Q I q => h.run pins s σ H Q I (k Q σ H q)⟩

/-! ### operands -/
inductive Opd where
  | val (p : Bool) (f : M OD)
  | plc (i : Nat)
inductive DV where
  | own (od : OD)
  | plc (i : Nat)
def DV.slot : DV → Option OD
  | .own od => some od
  | .plc _ => none
def tOpd (G : Gx) (W : WX) : Opd → TE
  | .val p f => TX G W p f
  | .plc i => tVar i
abbrev SO (X : Cx) (G : Gx) (W : WX) (e : Expr) (a : Opd) : Prop := PE X e (tOpd G W a)
def Opd.p : Opd → Bool
  | .val p _ => p
  | .plc _ => true
def Opd.ev : Opd → M DV
  | .val _ f => fun ρ => (f ρ).bind fun od ρ' => .ok (.own od) ρ'
  | .plc i => fun ρ => .ok (.plc i) ρ
def pAll : List Opd → Bool
  | [] => true
  | a :: as => a.p && pAll as
def evAll : List Opd → M (List DV)
  | [] => fun ρ => .ok [] ρ
  | a :: as => fun ρ => (a.ev ρ).bind fun d ρ1 => (evAll as ρ1).bind fun ds ρ2 => .ok (d :: ds) ρ2
def tAll (G : Gx) (W : WX) : List Opd → TA
  | [] => tNil
  | a :: as => tCons (tOpd G W a) (tAll G W as)
/-- the values of operands: those of places stand in the slots -/
def Lnk (σ : St) : List DV → List V → Prop
  | [], vs => vs = []
  | .own _ :: ds, vs => ∃ v r, vs = v :: r ∧ Lnk σ ds r
  | .plc i :: ds, vs => ∃ v r, vs = v :: r ∧ σ[i]? = some (some v) ∧ Lnk σ ds r
section
variable {G : Gx} {W : WX} {F F' F1 F2 F3 H H' H1 H2 H3 : Hp} {A A' A1 A2 A3 : AS} {ρ ρ' κ : Env} {σ ς : St}
theorem Sl.swap {x : Option OD} {v : Option V} {ξ ρ : Env} {τ σ : St} (hl : τ.length = ξ.length) (h : Sl G F H (ξ ++ x :: ρ) (τ ++ v :: σ) A) : Sl G F H (x :: (ξ ++ ρ)) (v :: (τ ++ σ)) A := by
  obtain ⟨A1, A2, h1, h2, c⟩ := Sl.app hl h
  cases x with
  | none =>
    simp only [Sl] at h2 ⊢
    obtain ⟨y, r, e, h2⟩ := h2
    injection e with e1 e2
    subst e1 e2
    exact ⟨_, _, rfl, Sl.join h1 h2 c⟩
  | some od =>
    simp only [Sl] at h2 ⊢
    obtain ⟨y, r, B1, B2, e, hv, h2, c2⟩ := h2
    injection e with e1 e2
    subst e1 e2
    obtain ⟨Y, c3, c4⟩ := c.symm.assoc c2
    exact ⟨_, _, _, _, rfl, hv, Sl.join h1 h2 c4.symm, c3⟩
theorem Stt.swap {x : Option OD} {v : Option V} {ξ ρ : Env} {τ σ : St} (hl : τ.length = ξ.length) (h : Stt G F H (ξ ++ x :: ρ) (τ ++ v :: σ) A) : Stt G F H (x :: (ξ ++ ρ)) (v :: (τ ++ σ)) A := ⟨h.le, h.sl.swap hl, h.fr⟩
theorem Lnk.len {σ : St} : ∀ {ds : List DV} {vs : List V}, Lnk σ ds vs → vs.length = ds.length
  | [], vs, h => by simp only [Lnk] at h; subst h; rfl
  | .own _ :: ds, vs, h => by
    simp only [Lnk] at h
    obtain ⟨v, r, rfl, h⟩ := h
    simp [Lnk.len h]
  | .plc _ :: ds, vs, h => by
    simp only [Lnk] at h
    obtain ⟨v, r, rfl, _, h⟩ := h
    simp [Lnk.len h]
/-- one operand -/
theorem tOpd_run {a : Opd} {Q : VK} (S : Stt G F H (κ ++ ρ) (ς ++ σ) A) (hl : ς.length = κ.length) (hp : ∀ i, a = .plc i → ∃ v, σ[i]? = some (some v))
    (h : Pst G W a.p (a.ev ρ) F H A κ ς σ fun d ρ' => ∀ F' H' v A', Go a.p F H A F' H' A' → Stt G F' H' (d.slot :: (κ ++ ρ')) (some v :: (ς ++ σ)) A' → (∀ i, d = .plc i → σ[i]? = some (some v)) → Q v H') : tOpd G W a σ H Q := by
  cases a with
  | val p f =>
    refine ⟨F, ρ, A, κ, ς, S, hl, ?_⟩
    simp only [Opd.ev, Opd.p] at h
    cases e : f ρ with
    | ok od ρ' => rw [e] at h; exact fun F' H' v A' g S' => h F' H' v A' g S' fun i z => nomatch z
    | exc x ρ' => rw [e] at h; exact h
    | stuck => rw [e] at h; exact h
  | plc i =>
    obtain ⟨v, e⟩ := hp i rfl
    refine ⟨v, e, ?_⟩
    exact h F H v A .refl S.push_n fun j z => by injection z with z; subst z; exact e
def Opd.ok (σ : St) (a : Opd) : Prop := ∀ i, a = .plc i → ∃ v, σ[i]? = some (some v)
theorem tAll_run : ∀ {as : List Opd} {F H : Hp} {A : AS} {κ ρ : Env} {ς σ : St} {Q : List V → Hp → Prop}, Stt G F H (κ ++ ρ) (ς ++ σ) A → ς.length = κ.length → (∀ a ∈ as, a.ok σ) →
    Pst G W (pAll as) (evAll as ρ) F H A κ ς σ (fun ds ρ' => ∀ F' H' vs A', Go (pAll as) F H A F' H' A' → Stt G F' H' (ds.map DV.slot ++ (κ ++ ρ')) (vs.map some ++ (ς ++ σ)) A' → Lnk σ ds vs → Q vs H') → tAll G W as σ H Q
  | [], F, H, A, κ, ρ, ς, σ, Q, S, hl, ho, h => h F H [] A .refl S rfl
  | a :: as, F, H, A, κ, ρ, ς, σ, Q, S, hl, ho, h => by
    show tOpd G W a σ H fun x H1 => tAll G W as σ H1 fun xs H2 => Q (x :: xs) H2
    refine tOpd_run S hl (ho a List.mem_cons_self) ?_
    simp only [evAll] at h
    cases e : a.ev ρ with
    | stuck => rw [e] at h; exact h
    | exc x ρ' => rw [e] at h; exact h
    | ok d ρ1 =>
      rw [e] at h
      simp only [Out.bind_ok] at h
      intro F1 H1 v1 A1 g1 S1 l1
      refine tAll_run (κ := d.slot :: κ) (ς := some v1 :: ς) (ρ := ρ1) S1 (by simp [hl]) (fun b hb => ho b (List.mem_cons_of_mem _ hb)) ?_
      cases e2 : evAll as ρ1 with
      | stuck => rw [e2] at h; exact h
      | exc x ρ2 =>
        rw [e2] at h
        intro F' H' A' cls dd g S' xr
        have : ∃ A'', Stt G F' H' (κ ++ ρ2) (ς ++ σ) A'' ∧ ∀ a, A'' a → A' a := by
          cases hs : d.slot with
          | none =>
            rw [hs] at S'
            exact ⟨A', S'.pop_n, fun _ z => z⟩
          | some od =>
            rw [hs] at S'
            obtain ⟨B, A'', _, S'', c, _⟩ := S'.pop
            exact ⟨A'', S'', fun a z => c.r z⟩
        obtain ⟨A'', S'', sub⟩ := this
        exact h F' H' A'' cls dd (((g1.trans g).imp (fun z => by cases z)).less sub) S'' xr
      | ok ds ρ2 =>
        rw [e2] at h
        intro F2 H2 vs A2 g2 S2 l2
        refine h F2 H2 (v1 :: vs) A2 (g1.trans g2) ?_ ?_
        · have hl2 : (vs.map some).length = (ds.map DV.slot).length := by simp [l2.len]
          exact S2.swap hl2
        · cases d with
          | own od => exact ⟨_, _, rfl, l2⟩
          | plc i => exact ⟨_, _, rfl, l1 i rfl, l2⟩
end
end Vs
/-! VsC: operations on operands; tests. -/
namespace Vs
open PySem L2
section
variable (G : Gx)
/-- data whose own object may be one that is owned -/
def RepB (F H : Hp) : D → V → Prop
  | .lst ds, v => ∃ a vs, v = .ref a ∧ H a = some (.lst vs) ∧ Reps G F ds vs
  | .dk ks ds, v => ∃ a kvs, v = .ref a ∧ H a = some (.dK kvs) ∧ kvs.map (·.1) = ks ∧ Reps G F ds (kvs.map (·.2))
  | .ins c fs ds, v => ∃ a C dx fvs, v = .ref a ∧ G.mg c = some (.ref C) ∧ H a = some (.ins C dx fvs) ∧ fvs.map (·.1) = fs ∧ Reps G F ds (fvs.map (·.2))
  | d, v => Rep G F d v
def RepBs (F H : Hp) : List D → List V → Prop
  | [], vs => vs = []
  | d :: ds, vs => ∃ v r, vs = v :: r ∧ RepB G F H d v ∧ RepBs F H ds r
end
def OD.sh1 : OD → Option D
  | .v d => some d
  | _ => none
def OD.shs : List OD → Option (List D)
  | [] => some []
  | x :: xs => x.sh1.bind fun d => (OD.shs xs).map fun ds => d :: ds
def OD.sh : OD → Option D
  | .v d => some d
  | .l xs => (OD.shs xs).map .lst
  | .k ks xs => (OD.shs xs).map (.dk ks)
  | .o c fs xs => (OD.shs xs).map (.ins c fs)
theorem shs_v : ∀ ds : List D, OD.shs (ds.map .v) = some ds
  | [] => rfl
  | d :: ds => by simp [OD.shs, OD.sh1, shs_v ds]
section
variable {G : Gx} {W : WX} {F F' F1 F2 F3 H H' H1 H2 H3 : Hp} {A A' A1 A2 A3 : AS} {ρ ρ' κ : Env} {σ ς : St}
theorem Rep.b (l : Le F H) {d : D} {v : V} (h : Rep G F d v) : RepB G F H d v := by
  cases d <;> simp only [RepB] <;> simp only [Rep] at h ⊢ <;> try exact h
  · obtain ⟨a, vs, h1, h2, h3⟩ := h
    exact ⟨a, vs, h1, l _ _ h2, h3⟩
  · obtain ⟨a, kvs, h1, h2, h3⟩ := h
    exact ⟨a, kvs, h1, l _ _ h2, h3⟩
  · obtain ⟨a, C, dx, fvs, h1, h2, h3, h4⟩ := h
    exact ⟨a, C, dx, fvs, h1, h2, l _ _ h3, h4⟩
theorem RepB.mono (e : Le F F') {d : D} {v : V} (h : RepB G F H d v) : RepB G F' H d v := by
  cases d <;> simp only [RepB] at h ⊢ <;> try exact h.mono e
  · obtain ⟨a, vs, h1, h2, h3⟩ := h
    exact ⟨a, vs, h1, h2, h3.mono e⟩
  · obtain ⟨a, kvs, h1, h2, h3, h4⟩ := h
    exact ⟨a, kvs, h1, h2, h3, h4.mono e⟩
  · obtain ⟨a, C, dx, fvs, h1, h2, h3, h4, h5⟩ := h
    exact ⟨a, C, dx, fvs, h1, h2, h3, h4, h5.mono e⟩
theorem OTs.sh : ∀ {xs : List OD} {ds : List D} {vs : List V} {A : AS}, OTs G F H xs vs A → OD.shs xs = some ds → Reps G F ds vs
  | [], ds, vs, A, h, e => by
    simp only [OD.shs] at e; cases e
    simp only [OTs] at h; simp only [Reps]; exact h.1
  | x :: xs, ds, vs, A, h, e => by
    simp only [OD.shs] at e
    cases x with
    | v d =>
      simp only [OD.sh1, Option.bind_some] at e
      cases q : OD.shs xs with
      | none => rw [q] at e; cases e
      | some es =>
        rw [q] at e; cases e
        simp only [OTs, OT] at h
        obtain ⟨v, r, A1, A2, rfl, h1, h2, _⟩ := h
        exact .cons h1.1 (OTs.sh h2 q)
    | _ => simp [OD.sh1] at e
theorem OT.sh (l : Le F H) {od : OD} {d : D} {v : V} {A : AS} (h : OT G F H od v A) (e : od.sh = some d) : RepB G F H d v := by
  cases od with
  | v d' =>
    simp only [OD.sh] at e; cases e
    simp only [OT] at h
    exact h.1.b l
  | l xs =>
    simp only [OD.sh] at e
    cases q : OD.shs xs with
    | none => rw [q] at e; cases e
    | some es =>
      rw [q] at e; cases e
      simp only [OT] at h
      obtain ⟨a, vs, A', h1, h2, h3, c⟩ := h
      exact ⟨a, vs, h1, h2, h3.sh q⟩
  | k ks xs =>
    simp only [OD.sh] at e
    cases q : OD.shs xs with
    | none => rw [q] at e; cases e
    | some es =>
      rw [q] at e; cases e
      simp only [OT] at h
      obtain ⟨a, kvs, A', h1, h2, hk, h3, c⟩ := h
      exact ⟨a, kvs, h1, h2, hk, h3.sh q⟩
  | o cn fs xs =>
    simp only [OD.sh] at e
    cases q : OD.shs xs with
    | none => rw [q] at e; cases e
    | some es =>
      rw [q] at e; cases e
      simp only [OT] at h
      obtain ⟨a, C, dx, fvs, A', h1, hm, h2, hk, h3, c⟩ := h
      exact ⟨a, C, dx, fvs, h1, hm, h2, hk, h3.sh q⟩
end
def DV.get (ρ : Env) : DV → Option D
  | .own od => some od.fz
  | .plc i => (ρ[i]?.join).bind OD.sh
def res (ρ : Env) : List DV → Option (List D)
  | [] => some []
  | d :: ds => (d.get ρ).bind fun x => (res ρ ds).map fun xs => x :: xs
section
variable {G : Gx} {W : WX} {F F' F1 F2 F3 H H' H1 H2 H3 : Hp} {A A' A1 A2 A3 : AS} {ρ ρ' κ : Env} {σ ς : St}
theorem RepBs.mono (e : Le F F') : ∀ {ds : List D} {vs : List V}, RepBs G F H ds vs → RepBs G F' H ds vs
  | [], vs, h => by simpa only [RepBs] using h
  | d :: ds, vs, h => by
    simp only [RepBs] at h ⊢
    obtain ⟨v, r, h1, h2, h3⟩ := h
    exact ⟨v, r, h1, h2.mono e, RepBs.mono e h3⟩
theorem RepBs.one {d : D} {vs : List V} (h : RepBs G F H [d] vs) : ∃ v, vs = [v] ∧ RepB G F H d v := by
  simp only [RepBs] at h
  obtain ⟨v, r, rfl, h1, rfl⟩ := h
  exact ⟨v, rfl, h1⟩
theorem RepBs.two {d e : D} {vs : List V} (h : RepBs G F H [d, e] vs) : ∃ v w, vs = [v, w] ∧ RepB G F H d v ∧ RepB G F H e w := by
  simp only [RepBs] at h
  obtain ⟨v, r, rfl, h1, w, s, rfl, h2, rfl⟩ := h
  exact ⟨v, w, rfl, h1, h2⟩
theorem RepBs.three {d e f : D} {vs : List V} (h : RepBs G F H [d, e, f] vs) : ∃ v w u, vs = [v, w, u] ∧ RepB G F H d v ∧ RepB G F H e w ∧ RepB G F H f u := by
  simp only [RepBs] at h
  obtain ⟨v, r, rfl, h1, w, s, rfl, h2, u, s', rfl, h3, rfl⟩ := h
  exact ⟨v, w, u, rfl, h1, h2, h3⟩
/-- a slot seen as a borrowed value -/
theorem Stt.see {i : Nat} {od : OD} {d : D} {v : V} (S : Stt G F H (κ ++ ρ) (ς ++ σ) A) (hl : ς.length = κ.length) (e : ρ[i]? = some (some od)) (es : od.sh = some d) (ev : σ[i]? = some (some v)) : RepB G F H d v := by
  have e' : (κ ++ ρ)[κ.length + i]? = some (some od) := by rw [List.getElem?_append_right (by omega)]; simpa using e
  obtain ⟨w, A1, A2, h1, h2, _, _⟩ := S.sl.at e'
  have : (ς ++ σ)[κ.length + i]? = σ[i]? := by rw [← hl, List.getElem?_append_right (by omega)]; simp
  rw [this, ev] at h1
  cases h1
  exact h2.sh S.le es
theorem res_run : ∀ {ds : List DV} {xs : List D} {vs : List V} {F : Hp} {A : AS}, Stt G F H (ds.map DV.slot ++ (κ ++ ρ)) (vs.map some ++ (ς ++ σ)) A → ς.length = κ.length → Lnk σ ds vs → res ρ ds = some xs →
    ∃ F' A', Stt G F' H (κ ++ ρ) (ς ++ σ) A' ∧ Go true F H A F' H A' ∧ Le F F' ∧ RepBs G F' H xs vs
  | [], xs, vs, F, A, S, hl, l, e => by
    simp only [res] at e; cases e
    simp only [Lnk] at l; subst l
    exact ⟨F, A, S, .refl, .refl _, rfl⟩
  | .own od :: ds, xs, vs, F, A, S, hl, l, e => by
    simp only [Lnk] at l
    obtain ⟨v, r, rfl, l⟩ := l
    simp only [res, DV.get, Option.bind_some] at e
    cases q : res ρ ds with
    | none => rw [q] at e; cases e
    | some ys =>
      rw [q] at e; cases e
      obtain ⟨F1, A1, h1, S1, g1, le1⟩ := Stt.frz (p := true) S
      obtain ⟨F2, A2, S2, g2, le2, h2⟩ := res_run S1 hl l q
      exact ⟨F2, A2, S2, g1.trans g2, le1.trans le2, _, _, rfl, (h1.mono le2).b S2.le, h2⟩
  | .plc i :: ds, xs, vs, F, A, S, hl, l, e => by
    simp only [Lnk] at l
    obtain ⟨v, r, rfl, lv, l⟩ := l
    simp only [res, DV.get] at e
    cases q0 : ρ[i]?.join with
    | none => rw [q0] at e; cases e
    | some od =>
      rw [q0] at e
      simp only [Option.bind_some] at e
      cases q1 : od.sh with
      | none => rw [q1] at e; cases e
      | some d =>
        rw [q1] at e
        simp only [Option.bind_some] at e
        cases q : res ρ ds with
        | none => rw [q] at e; cases e
        | some ys =>
          rw [q] at e; cases e
          obtain ⟨F2, A2, S2, g2, le2, h2⟩ := res_run (Stt.pop_n S) hl l q
          have e0 : ρ[i]? = some (some od) := by
            cases h : ρ[i]? with
            | none => rw [h] at q0; cases q0
            | some y => rw [h] at q0; simp only [Option.join_some] at q0; rw [q0]
          exact ⟨F2, A2, S2, g2, le2, _, _, rfl, S2.see hl e0 q1 lv, h2⟩
end
/-- places of operands hold something -/
def okPl (ρ : Env) : List Opd → Bool
  | [] => true
  | .val _ _ :: as => okPl ρ as
  | .plc i :: as => (ρ[i]?.join).isSome && okPl ρ as
def mApp (op : List D → Option OD) (as : List Opd) : M OD := fun ρ =>
  if okPl ρ as then (evAll as ρ).bind fun ds ρ' => match (res ρ' ds).bind op with
    | some z => .ok z ρ'
    | none => .stuck
  else .stuck
/-- an operation on values does what op says of data -/
def RN (G : Gx) (r : List V → Hp → VK → Prop) (op : List D → Option OD) : Prop :=
  ∀ F H xs vs z Q, Le F H → RepBs G F H xs vs → op xs = some z → (∀ F' H' u B, New F H F' H' → OT G F' H' z u B → (∀ a, B a → H a = none ∧ F' a = none) → Q u H') → r vs H Q
section
variable {G : Gx} {W : WX} {F F' F1 F2 F3 H H' H1 H2 H3 : Hp} {A A' A1 A2 A3 : AS} {ρ ρ' κ : Env} {σ ς : St} {X : Cx} {e : Expr}
theorem okPl_ok : ∀ {as : List Opd}, Stt G F H (κ ++ ρ) (ς ++ σ) A → ς.length = κ.length → okPl ρ as = true → ∀ a ∈ as, a.ok σ
  | [], _, _, _, a, ha => by simp at ha
  | .val _ _ :: as, S, hl, h, a, ha => by
    rcases List.mem_cons.mp ha with rfl | ha'
    · intro i z; cases z
    · exact okPl_ok (as := as) S hl h a ha'
  | .plc i :: as, S, hl, h, a, ha => by
    simp only [okPl, Bool.and_eq_true] at h
    rcases List.mem_cons.mp ha with rfl | ha
    · intro j z
      injection z with z; subst z
      cases h0 : ρ[i]? with
      | none => rw [h0] at h; simp at h
      | some y =>
        cases y with
        | none => rw [h0] at h; simp at h
        | some od =>
          have e' : (κ ++ ρ)[κ.length + i]? = some (some od) := by rw [List.getElem?_append_right (by omega)]; simpa using h0
          obtain ⟨w, A1, A2, h1, _⟩ := S.sl.at e'
          have : (ς ++ σ)[κ.length + i]? = σ[i]? := by rw [← hl, List.getElem?_append_right (by omega)]; simp
          rw [this] at h1
          exact ⟨w, h1⟩
    · exact okPl_ok S hl h.2 a ha
/-- the result of an operation, laid on the stack -/
theorem app_done {p : Bool} {r : List V → Hp → VK → Prop} {op : List D → Option OD} (R : RN G r op) {ds : List DV} {xs : List D} {vs : List V} {z : OD} {Q : VK} {F0 H0 : Hp} {A0 : AS} (g : Go p F0 H0 A0 F H A)
    (S : Stt G F H (ds.map DV.slot ++ (κ ++ ρ)) (vs.map some ++ (ς ++ σ)) A) (hl : ς.length = κ.length) (l : Lnk σ ds vs) (e : res ρ ds = some xs) (ez : op xs = some z)
    (h : ∀ F' H' v A', Go p F0 H0 A0 F' H' A' → Stt G F' H' (some z :: (κ ++ ρ)) (some v :: (ς ++ σ)) A' → Q v H') : r vs H Q := by
  obtain ⟨F3, A3, S3, g3, le3, hr⟩ := res_run S hl l e
  refine R F3 H xs vs z Q S3.le hr ez fun F4 H4 u B n ht hB => ?_
  have S4 := S3.new n
  obtain ⟨A5, S5, h5⟩ := S4.push ht fun a ha => ⟨(hB a ha).2, fun z => by
    obtain ⟨o, q⟩ := S3.sl.there a z
    rw [(hB a ha).1] at q; cases q⟩
  refine h F4 H4 u A5 ?_ S5
  have g4 : Go p F0 H0 A0 F4 H4 A3 := (((g.trans g3).trans (n.go (p := true) (A := A3)))).imp fun z => by simp [z]
  refine ⟨g4.le, g4.keep, fun a ha => ?_, g4.nf⟩
  · rcases (h5 a).1 ha with b | b
    · by_cases hA : A0 a
      · exact .inl hA
      · right
        cases q2 : H0 a with
        | none => rfl
        | some o =>
          have := g.keep a o q2 (fun w => hA w.2)
          rw [(hB a b).1] at this; cases this
    · exact g4.sub a b
/-- an expression that is an operation on operands -/
theorem sx_app {as : List Opd} {op : List D → Option OD} {r : List V → Hp → VK → Prop} {t : TE} (ht : PE X e t) (R : RN G r op) (h : ∀ σ H Q, tAll G W as σ H (fun vs H1 => r vs H1 Q) → t σ H Q) : SX X G W (pAll as) e (mApp op as) := by
  refine PE.of ht fun σ H Q q => h σ H Q ?_
  obtain ⟨F, ρ, A, κ, ς, S, hl, q⟩ := q
  unfold mApp at q
  by_cases ho : okPl ρ as = true
  · rw [if_pos ho] at q
    refine tAll_run S hl (okPl_ok S hl ho) ?_
    cases e1 : evAll as ρ with
    | stuck => rw [e1] at q; exact q
    | exc x ρ' => rw [e1] at q; exact q
    | ok ds ρ' =>
      rw [e1] at q
      simp only [Out.bind_ok] at q
      intro F1 H1 vs A1 g1 S1 l1
      cases e2 : res ρ' ds with
      | none => rw [e2] at q; exact q.elim
      | some xs =>
        rw [e2] at q
        simp only [Option.bind_some] at q
        cases e3 : op xs with
        | none => rw [e3] at q; exact q.elim
        | some z =>
          rw [e3] at q
          exact app_done R g1 S1 hl l1 e2 e3 q
  · rw [if_neg ho] at q; exact q.elim
end
/-! ### names, constants -/
def mC (d : D) : M OD := fun ρ => .ok (.v d) ρ
/-- a name that holds data -/
def mVar (i : Nat) : M OD := fun ρ => match ρ[i]? with
  | some (some (.v d)) => .ok (.v d) ρ
  | _ => .stuck
/-- a name that gives away what it owns -/
def mMv (i : Nat) : M OD := fun ρ => match ρ[i]? with
  | some (some od) => .ok od (ρ.set i none)
  | _ => .stuck
/-- its value is data from now on -/
def mFz (f : M OD) : M OD := fun ρ => (f ρ).bind fun od ρ' => .ok (.v od.fz) ρ'
section
variable {G : Gx} {W : WX} {F F' F1 F2 F3 H H' H1 H2 H3 : Hp} {A A' A1 A2 A3 : AS} {ρ ρ' κ : Env} {σ ς : St} {X : Cx} {e : Expr}
theorem getKap {i : Nat} {x : Option OD} (e : ρ[i]? = some x) : (κ ++ ρ)[κ.length + i]? = some x := by rw [List.getElem?_append_right (by omega)]; simpa using e
theorem getSig {i : Nat} (hl : ς.length = κ.length) : (ς ++ σ)[κ.length + i]? = σ[i]? := by rw [← hl, List.getElem?_append_right (by omega)]; simp
theorem setKap {i : Nat} {x : Option OD} : (κ ++ ρ).set (κ.length + i) x = κ ++ ρ.set i x := by rw [List.set_append_right _ _ (by omega)]; simp
theorem sx_c {d : D} {v : V} (h : PE X e (tC v)) (r : ∀ F, Rep G F d v) : SX X G W true e (mC d) := PE.of h fun σ H Q q => by
  obtain ⟨F, ρ, A, κ, ς, S, hl, q⟩ := q
  exact q F H v A .refl (S.push_v (r F))
theorem sx_var {i : Nat} (h : PE X e (tVar i)) : SX X G W true e (mVar i) := PE.of h fun σ H Q q => by
  obtain ⟨F, ρ, A, κ, ς, S, hl, q⟩ := q
  unfold mVar at q
  split at q
  · rename_i d e1
    obtain ⟨v, A1, A2, h1, h2, h3, c⟩ := S.sl.at (getKap (κ := κ) e1)
    rw [getSig hl] at h1
    simp only [OT] at h2
    exact ⟨v, h1, q F H v A .refl (S.push_v h2.1)⟩
  · exact q.elim
theorem sx_mv {i : Nat} (h : PE X e (tVar i)) : SX X G W true e (mMv i) := PE.of h fun σ H Q q => by
  obtain ⟨F, ρ, A, κ, ς, S, hl, q⟩ := q
  unfold mMv at q
  split at q
  · rename_i od e1
    obtain ⟨v, A1, A2, h1, h2, h3, c⟩ := S.sl.at (getKap (κ := κ) e1)
    rw [getSig hl] at h1
    rw [setKap] at h3
    exact ⟨v, h1, q F H v A .refl ⟨S.le, by simp only [Sl]; exact ⟨_, _, _, _, rfl, h2, h3, c⟩, S.fr⟩⟩
  · exact q.elim
theorem sx_fz {p : Bool} {f : M OD} (h : SX X G W p e f) : SX X G W p e (mFz f) := PE.of h fun σ H Q q => by
  obtain ⟨F, ρ, A, κ, ς, S, hl, q⟩ := q
  refine ⟨F, ρ, A, κ, ς, S, hl, ?_⟩
  unfold mFz at q
  cases e1 : f ρ with
  | stuck => rw [e1] at q; exact q
  | exc x ρ' => rw [e1] at q; exact q
  | ok od ρ' =>
    rw [e1] at q
    intro F' H' v A' g S'
    obtain ⟨F2, A2, hr, S2, g2, _⟩ := Stt.frz (p := true) S'
    exact q F2 H' v A2 ((g.trans g2).imp fun z => by simp [z]) (S2.push_v hr)
theorem so_val {p : Bool} {f : M OD} (h : SX X G W p e f) : SO X G W e (.val p f) := h
theorem so_plc {i : Nat} (h : PE X e (tVar i)) : SO X G W e (.plc i) := h
end
/-! ### tests -/
def TB (G : Gx) (W : WX) (p : Bool) (f : M Bool) : TT := fun σ H Q => ∃ F ρ A κ ς, Stt G F H (κ ++ ρ) (ς ++ σ) A ∧ ς.length = κ.length ∧
  Pst G W p (f ρ) F H A κ ς σ fun b ρ' => ∀ F' H' A', Go p F H A F' H' A' → Stt G F' H' (κ ++ ρ') (ς ++ σ) A' → Q b H'
abbrev SB (X : Cx) (G : Gx) (W : WX) (p : Bool) (e : Expr) (f : M Bool) : Prop := PT X e (TB G W p f)
def asB (f : M OD) : M Bool := fun ρ => (f ρ).bind fun od ρ' => match od with
  | .v (.bl b) => .ok b ρ'
  | _ => .stuck
def mB (f : M Bool) : M OD := fun ρ => (f ρ).bind fun b ρ' => .ok (.v (.bl b)) ρ'
def bAnd (f g : M Bool) : M Bool := fun ρ => (f ρ).bind fun b ρ' => if b then g ρ' else .ok false ρ'
def bOr (f g : M Bool) : M Bool := fun ρ => (f ρ).bind fun b ρ' => if b then .ok true ρ' else g ρ'
def bNot (f : M Bool) : M Bool := fun ρ => (f ρ).bind fun b ρ' => .ok (!b) ρ'
def mIf {α : Type} (c : M Bool) (f g : M α) : M α := fun ρ => (c ρ).bind fun b ρ' => if b then f ρ' else g ρ'
section
variable {G : Gx} {W : WX} {F F' F1 F2 F3 H H' H1 H2 H3 : Hp} {A A' A1 A2 A3 : AS} {ρ ρ' κ : Env} {σ ς : St} {X : Cx} {e : Expr}
/-- the reading asB of an expression -/
theorem TX.asB {p : Bool} {f : M OD} {Q : Bool → Hp → Prop} (q : TB G W p (asB f) σ H Q) : TX G W p f σ H fun v H1 => ∃ b, v = .bl b ∧ Q b H1 := by
  obtain ⟨F, ρ, A, κ, ς, S, hl, q⟩ := q
  refine ⟨F, ρ, A, κ, ς, S, hl, ?_⟩
  unfold Vs.asB at q
  cases e1 : f ρ with
  | stuck => rw [e1] at q; exact q
  | exc x ρ' => rw [e1] at q; exact q
  | ok od ρ' =>
    rw [e1] at q
    simp only [Out.bind_ok] at q
    intro F' H' v A' g S'
    split at q
    · rename_i b
      obtain ⟨hr, S2⟩ := S'.pop_v
      simp only [Rep] at hr
      exact ⟨b, hr, q F' H' A' g S2⟩
    · exact q.elim
theorem sb_val {p : Bool} {f : M OD} (h : SX X G W p e f) (he : ∀ whole, isTrue e X.env whole = (do let v ← whole; standAt e.pos; holding [v] (truthy v)) := by intro _; rfl) : SB X G W p e (asB f) :=
  PT.of (pt_val h he) fun σ H Q q => TX.asB q
/-- two readings, one behind the other -/
theorem TB.bind {p q : Bool} {f : M Bool} {k : Bool → M Bool} {Q : Bool → Hp → Prop} {R : Bool → Hp → Prop} (h : TB G W (p && q) (fun ρ => (f ρ).bind k) σ H Q)
    (hk : ∀ b H1, TB G W q (k b) σ H1 Q → R b H1) : TB G W p f σ H R := by
  obtain ⟨F, ρ, A, κ, ς, S, hl, h⟩ := h
  refine ⟨F, ρ, A, κ, ς, S, hl, ?_⟩
  dsimp only at h
  cases e1 : f ρ with
  | stuck => rw [e1] at h; exact h
  | exc x ρ' => rw [e1] at h; exact h
  | ok b ρ1 =>
    rw [e1] at h
    simp only [Out.bind_ok] at h
    intro F1 H1 A1 g1 S1
    refine hk b H1 ⟨F1, ρ1, A1, κ, ς, S1, hl, ?_⟩
    cases e2 : k b ρ1 with
    | stuck => rw [e2] at h; exact h
    | exc x ρ' =>
      rw [e2] at h
      exact fun F' H' A' cls d g S' xr => h F' H' A' cls d ((g1.trans g).imp fun z => by cases z) S' xr
    | ok b2 ρ2 =>
      rw [e2] at h
      exact fun F' H' A' g S' => h F' H' A' (g1.trans g) S'
theorem TB.pure {p : Bool} {b : Bool} {Q : Bool → Hp → Prop} (h : TB G W p (fun ρ => .ok b ρ) σ H Q) : Q b H := by
  obtain ⟨F, ρ, A, κ, ς, S, hl, h⟩ := h
  exact h F H A .refl S
theorem TB.weak {p q : Bool} {f : M Bool} {Q : Bool → Hp → Prop} (h : TB G W p f σ H Q) (hq : p = true → q = true) : TB G W q f σ H Q := by
  obtain ⟨F, ρ, A, κ, ς, S, hl, h⟩ := h
  refine ⟨F, ρ, A, κ, ς, S, hl, ?_⟩
  cases e1 : f ρ with
  | stuck => rw [e1] at h; exact h
  | exc x ρ' => rw [e1] at h; exact h
  | ok b ρ1 =>
    rw [e1] at h
    exact fun F' H' A' g S' => h F' H' A' (g.imp hq) S'
variable {a b c : Expr} {rest : List Expr} {pos : Pos} {p q : Bool} {f g : M Bool}
theorem sb_not (ha : SB X G W p a f) : SB X G W p (.UnaryOp .Not a pos) (bNot f) := PT.of (pt_not ha) fun σ H Q h => by
  have h' : TB G W (p && true) (fun ρ => (f ρ).bind fun b ρ' => .ok (!b) ρ') σ H Q := by rw [Bool.and_true]; exact h
  exact TB.bind (k := fun b ρ' => .ok (!b) ρ') h' fun b H1 z => TB.pure z
/-- and, or: parts -/
abbrev SW (X : Cx) (G : Gx) (W : WX) (p : Bool) (e : Expr) (f : M Bool) : Prop := PW X e (TB G W p f)
theorem PW.of {t t' : TT} (h : PW X e t) (k : ∀ σ H Q, t' σ H Q → t σ H Q) : PW X e t' := ⟨fun wh pins s σ H Q I q => h.run wh pins s σ H Q I (k σ H Q q)⟩
theorem sw_and1 (ha : SB X G W p a f) : SW X G W p (.BoolOp .And [a] pos) f := pw_and1 ha
theorem sw_or1 (ha : SB X G W p a f) : SW X G W p (.BoolOp .Or [a] pos) f := pw_or1 ha
theorem sw_and (ha : SB X G W p a f) (hb : SW X G W q (.BoolOp .And (b :: rest) pos) g) : SW X G W (p && q) (.BoolOp .And (a :: b :: rest) pos) (bAnd f g) := PW.of (pw_and ha hb) fun σ H Q h =>
  TB.bind (k := fun b ρ' => if b then g ρ' else .ok false ρ') h fun b H1 z => by
    cases b with
    | true => exact iteT (by simpa using z)
    | false => exact iteF (TB.pure (p := q) (by simpa using z))
theorem sw_or (ha : SB X G W p a f) (hb : SW X G W q (.BoolOp .Or (b :: rest) pos) g) : SW X G W (p && q) (.BoolOp .Or (a :: b :: rest) pos) (bOr f g) := PW.of (pw_or ha hb) fun σ H Q h =>
  TB.bind (k := fun b ρ' => if b then .ok true ρ' else g ρ') h fun b H1 z => by
    cases b with
    | true => exact iteT (TB.pure (p := q) (by simpa using z))
    | false => exact iteF (by simpa using z)
theorem sb_w (h : SW X G W p e f) : SB X G W p e f := PW.pt h
end
end Vs
/-! VsD: statements. -/
namespace Vs
open PySem L2
inductive Fl where
  | nx
  | rt (od : OD)
  | bk
  | ct
abbrev SM := M Fl
/-- slots that are not stored anew -/
def Pin (pn : List Nat) (σ σ' : St) : Prop := ∀ i ∈ pn, σ'[i]? = σ[i]?
theorem Pin.refl {pn : List Nat} {σ : St} : Pin pn σ σ := fun _ _ => rfl
theorem Pin.trans {pn : List Nat} {σ σ1 σ2 : St} (a : Pin pn σ σ1) (b : Pin pn σ1 σ2) : Pin pn σ σ2 := fun i h => (b i h).trans (a i h)
theorem Pin.set {pn : List Nat} {σ : St} {i : Nat} {x : Option V} (h : i ∉ pn) : Pin pn σ (σ.set i x) := fun j hj => by
  rw [List.getElem?_set_ne]
  rintro rfl
  exact h hj
/-- how a statement's end is met, from (F, H, A, σ) on -/
def Fin (G : Gx) (W : WX) (pn : List Nat) (D : Ends) (F H : Hp) (A : AS) (σ : St) (o : Out Fl) : Prop := match o with
  | .ok fl ρ' => ∀ F' H' σ' A', Go false F H A F' H' A' → Pin pn σ σ' → match fl with
    | .nx => Stt G F' H' ρ' σ' A' → D.nx σ' H'
    | .bk => Stt G F' H' ρ' σ' A' → D.bk σ' H'
    | .ct => Stt G F' H' ρ' σ' A' → D.ct σ' H'
    | .rt od => ∀ v, Stt G F' H' (some od :: ρ') (some v :: σ') A' → D.rt v H'
  | .exc x ρ' => ∀ F' H' σ' A' cls d, Go false F H A F' H' A' → Pin pn σ σ' → Stt G F' H' ρ' σ' A' → XRep G F' H' x cls d → W cls d σ' H'
  | .stuck => False
def TZ (G : Gx) (W : WX) (pn : List Nat) (f : SM) : TS := fun D σ H => ∃ F ρ A, Stt G F H ρ σ A ∧ Fin G W pn D F H A σ (f ρ)
abbrev SS (X : Cx) (G : Gx) (W : WX) (pn : List Nat) (s : Stmt) (f : SM) : Prop := PS X s (TZ G W pn f)
abbrev SSs (X : Cx) (G : Gx) (W : WX) (pn : List Nat) (s : List Stmt) (f : SM) : Prop := PSs X s (TZ G W pn f)
section
variable {G : Gx} {W : WX} {pn : List Nat} {D : Ends} {F F' F1 F2 F3 H H' H1 H2 H3 : Hp} {A A' A1 A2 A3 : AS} {ρ ρ' κ : Env} {σ σ' ς : St} {X : Cx} {e : Expr}
/-- later on -/
theorem Fin.later {o : Out Fl} (h : Fin G W pn D F H A σ o) (g : Go false F H A F1 H1 A1) (p : Pin pn σ σ') : Fin G W pn D F1 H1 A1 σ' o := by
  cases o with
  | ok fl ρ' =>
    intro F' H' σ2 A' g2 p2
    have q := h F' H' σ2 A' (g.trans g2) (p.trans p2)
    cases fl <;> exact q
  | exc x ρ' => exact fun F' H' σ2 A' cls d g2 p2 => h F' H' σ2 A' cls d (g.trans g2) (p.trans p2)
  | stuck => exact h
theorem Fin.nx (h : Fin G W pn D F H A σ (.ok .nx ρ)) (S : Stt G F H ρ σ A) : D.nx σ H := h F H σ A .refl .refl S
/-- an exception of an expression -/
theorem Fin.exc {x : XV} (h : Fin G W pn D F H A σ (.exc x ρ)) {K : OD → Env → Prop} {p : Bool} : Pst G W p (.exc x ρ) F H A [] [] σ K :=
  fun F' H' A' cls d g S xr => h F' H' σ A' cls d g .refl S xr
/-- an expression, then more -/
theorem TX.then {p : Bool} {f : M OD} {k : OD → SM} {R : VK} (S : Stt G F H ρ σ A) (h : Fin G W pn D F H A σ ((f ρ).bind k))
    (hk : ∀ od ρ' F' H' v A', f ρ = .ok od ρ' → Go p F H A F' H' A' → Stt G F' H' (some od :: ρ') (some v :: σ) A' → Fin G W pn D F' H' A' σ (k od ρ') → R v H') : TX G W p f σ H R := by
  refine ⟨F, ρ, A, [], [], S, rfl, ?_⟩
  cases e1 : f ρ with
  | stuck => rw [e1] at h; exact h
  | exc x ρ' => rw [e1] at h; exact h.exc
  | ok od ρ' =>
    rw [e1] at h
    intro F' H' v A' g S'
    exact hk od ρ' F' H' v A' e1 g S' (h.later (g.imp (fun z => by cases z)) .refl)
theorem TB.then {p : Bool} {f : M Bool} {k : Bool → SM} {R : Bool → Hp → Prop} (S : Stt G F H ρ σ A) (h : Fin G W pn D F H A σ ((f ρ).bind k))
    (hk : ∀ b ρ' F' H' A', f ρ = .ok b ρ' → Go p F H A F' H' A' → Stt G F' H' ρ' σ A' → Fin G W pn D F' H' A' σ (k b ρ') → R b H') : TB G W p f σ H R := by
  refine ⟨F, ρ, A, [], [], S, rfl, ?_⟩
  cases e1 : f ρ with
  | stuck => rw [e1] at h; exact h
  | exc x ρ' => rw [e1] at h; exact fun F' H' A' cls d g S xr => h F' H' σ A' cls d g .refl S xr
  | ok od ρ' =>
    rw [e1] at h
    intro F' H' A' g S'
    exact hk od ρ' F' H' A' e1 g S' (h.later (g.imp (fun z => by cases z)) .refl)
/-- a value goes into a slot -/
theorem Stt.store {od : OD} {v : V} {i : Nat} (S : Stt G F H (some od :: ρ) (some v :: σ) A) (hi : i < ρ.length) : ∃ A', Stt G F H (ρ.set i (some od)) (σ.set i (some v)) A' ∧ ∀ a, A' a → A a := by
  obtain ⟨B, A1, h1, S1, c, hB⟩ := S.pop
  obtain ⟨A2, h2, sub⟩ := S1.sl.drop (i := i)
  have hiσ : i < σ.length := by rw [S1.sl.len]; exact hi
  have e0 : (ρ.set i none)[i]? = some none := List.getElem?_set_self (by simpa using hi)
  have h3 := h2.free (x := some v) e0
  have e1 : (σ.set i (some v))[i]? = some (some v) := List.getElem?_set_self hiσ
  have h4 := h3.put e0 e1 h1 (.mk' B A2 fun a b z => c.2 a b (sub a z))
  rw [List.set_set] at h4
  have hs : ∀ a, B a ∨ A2 a → A a := fun a z => z.elim (fun b => c.l b) fun z => c.r (sub a z)
  exact ⟨_, ⟨S.le, h4, fun a ha => S.fr a (hs a ha)⟩, hs⟩
theorem Stt.dropTop {x : Option OD} {y : Option V} (S : Stt G F H (x :: ρ) (y :: σ) A) : ∃ A', Stt G F H ρ σ A' ∧ ∀ a, A' a → A a := by
  cases x with
  | none => exact ⟨A, S.pop_n, fun _ h => h⟩
  | some od =>
    have sl := S.sl
    simp only [Sl] at sl
    obtain ⟨w, r, B, A', e, h1, h2, c⟩ := sl
    injection e with e1 e2
    subst e1 e2
    exact ⟨A', ⟨S.le, h2, fun a ha => S.fr a (c.r ha)⟩, fun a ha => c.r ha⟩
end
def zNext : SM := fun ρ => .ok .nx ρ
def zBreak : SM := fun ρ => .ok .bk ρ
def zCont : SM := fun ρ => .ok .ct ρ
def zSeq (f g : SM) : SM := fun ρ => (f ρ).bind fun fl ρ' => match fl with
  | .nx => g ρ'
  | .bk => .ok .bk ρ'
  | .ct => .ok .ct ρ'
  | .rt od => .ok (.rt od) ρ'
def zSet (i : Nat) (f : M OD) : SM := fun ρ => (f ρ).bind fun od ρ' => if i < ρ'.length then .ok .nx (ρ'.set i (some od)) else .stuck
def zRet (f : M OD) : SM := fun ρ => (f ρ).bind fun od ρ' => .ok (.rt od) ρ'
def zRetN : SM := fun ρ => .ok (.rt (.v .non)) ρ
def zDrop (f : M OD) : SM := fun ρ => (f ρ).bind fun _ ρ' => .ok .nx ρ'
def zIf (c : M Bool) (f g : SM) : SM := mIf c f g
/-- the slot's object becomes data -/
def zFz (i : Nat) (f : SM) : SM := fun ρ => match ρ[i]? with
  | some (some od) => f (ρ.set i (some (.v od.fz)))
  | _ => .stuck
section
variable {G : Gx} {W : WX} {pn : List Nat} {D : Ends} {F F' F1 F2 F3 H H' H1 H2 H3 : Hp} {A A' A1 A2 A3 : AS} {ρ ρ' κ : Env} {σ σ' ς : St} {X : Cx} {e : Expr} {st : Stmt} {rest a b : List Stmt} {f g : SM} {pos : Pos}
theorem zs_nil : SSs X G W pn [] zNext := PSs.of pss_nil fun D σ H h => by
  obtain ⟨F, ρ, A, S, h⟩ := h
  exact h.nx S
theorem TZ.seq (h : TZ G W pn (zSeq f g) D σ H) : TZ G W pn f { D with nx := TZ G W pn g D } σ H := by
  obtain ⟨F, ρ, A, S, h⟩ := h
  refine ⟨F, ρ, A, S, ?_⟩
  unfold zSeq at h
  cases e1 : f ρ with
  | stuck => rw [e1] at h; exact h
  | exc x ρ' => rw [e1] at h; exact h
  | ok fl ρ' =>
    rw [e1] at h
    simp only [Out.bind_ok] at h
    intro F' H' σ' A' g' p'
    cases fl with
    | nx => exact fun S' => ⟨F', ρ', A', S', h.later g' p'⟩
    | bk => exact h F' H' σ' A' g' p'
    | ct => exact h F' H' σ' A' g' p'
    | rt od => exact h F' H' σ' A' g' p'
theorem zs_cons (h1 : SS X G W pn st f) (h2 : SSs X G W pn rest g) : SSs X G W pn (st :: rest) (zSeq f g) := PSs.of (pss_cons h1 h2) fun D σ H h => h.seq
theorem zs_one (h1 : SS X G W pn st f) : SSs X G W pn [st] f := pss_one h1
theorem z_pass : SS X G W pn (.Pass pos) zNext := PS.of ps_pass fun D σ H h => by
  obtain ⟨F, ρ, A, S, h⟩ := h
  exact h.nx S
theorem z_break : SS X G W pn (.Break pos) zBreak := PS.of ps_break fun D σ H h => by
  obtain ⟨F, ρ, A, S, h⟩ := h
  exact h F H σ A .refl .refl S
theorem z_cont : SS X G W pn (.Continue pos) zCont := PS.of ps_continue fun D σ H h => by
  obtain ⟨F, ρ, A, S, h⟩ := h
  exact h F H σ A .refl .refl S
theorem TZ.set {i : Nat} {p : Bool} {f : M OD} (hi : i ∉ pn) (h : TZ G W pn (zSet i f) D σ H) : tAsg (TX G W p f) (gName i) D σ H := by
  obtain ⟨F, ρ, A, S, h⟩ := h
  unfold zSet at h
  refine TX.then S h fun od ρ' F' H' v A' e1 g' S' h' => ?_
  split at h'
  · rename_i hl
    obtain ⟨A2, S2, sub⟩ := S'.store hl
    exact h' F' H' _ A2 (Go.refl.less sub) (.set hi) S2
  · exact h'.elim
theorem z_set {i : Nat} {x : Str} {pos' : Pos} {p : Bool} {f : M OD} (hN : X.N.Nodup) (he : SX X G W p e f) (hi : X.N[i]? = some x) (hp : i ∉ pn) (hx : Loc X.env.scope x) (hs : swapsWith e (some (.Name x pos')) pos.line X.env = pure false) (hf : X.fn x = true ∨ X.env.scope.names.lookup x = some .local) :
    SS X G W pn (.Assign [.Name x pos'] e pos) (zSet i f) := PS.of (ps_set hN hi hx he hs hf) fun D σ H h => TZ.set hp h
theorem z_ret {p : Bool} {f : M OD} (he : SX X G W p e f) : SS X G W pn (.Return (some e) pos) (zRet f) := PS.of (ps_ret he) fun D σ H h => by
  obtain ⟨F, ρ, A, S, h⟩ := h
  refine TX.then S h fun od ρ' F' H' v A' e1 g' S' h' => ?_
  exact h' F' H' σ A' .refl .refl v S'
theorem z_retN : SS X G W pn (.Return none pos) zRetN := PS.of ps_retN fun D σ H h => by
  obtain ⟨F, ρ, A, S, h⟩ := h
  exact h F H σ A .refl .refl .non (S.push_v (by simp only [Rep]))
theorem z_drop {p : Bool} {f : M OD} (he : SX X G W p e f) (hs : swapsWith e none pos.line X.env = pure false := by rfl) : SS X G W pn (.Expr e pos) (zDrop f) := PS.of (ps_expr he hs) fun D σ H h => by
  obtain ⟨F, ρ, A, S, h⟩ := h
  refine TX.then S h fun od ρ' F' H' v A' e1 g' S' h' => ?_
  obtain ⟨A2, S2, sub⟩ := S'.dropTop
  exact h' F' H' σ A2 (Go.refl.less sub) .refl S2
theorem z_if {c : Expr} {p : Bool} {fc : M Bool} (hc : SB X G W p c fc) (ha : SSs X G W pn a f) (hb : SSs X G W pn b g) : SS X G W pn (.If c a b pos) (zIf fc f g) := PS.of (ps_if hc ha hb) fun D σ H h => by
  obtain ⟨F, ρ, A, S, h⟩ := h
  refine TB.then S h fun b ρ' F' H' A' e1 g' S' h' => ?_
  cases b with
  | true => exact iteT ⟨F', ρ', A', S', h'⟩
  | false => exact iteF ⟨F', ρ', A', S', h'⟩
theorem Stt.frzAt {i : Nat} {od : OD} (S : Stt G F H ρ σ A) (e : ρ[i]? = some (some od)) : ∃ F' A', Stt G F' H (ρ.set i (some (.v od.fz))) σ A' ∧ ∀ p, Go p F H A F' H A' := by
  obtain ⟨v, A1, A2, h1, h2, h3, c⟩ := S.sl.at e
  have S1 : Stt G F H (some od :: ρ.set i none) (some v :: σ) A := ⟨S.le, by simp only [Sl]; exact ⟨_, _, _, _, rfl, h2, h3, c⟩, S.fr⟩
  obtain ⟨F', A', hr, S2, g, _⟩ := Stt.frz (p := true) S1
  have e0 : (ρ.set i none)[i]? = some none := List.getElem?_set_self (List.getElem?_eq_some_iff.mp e).1
  have ho : OT G F' H (.v od.fz) v (fun _ => False) := by simp only [OT]; exact ⟨hr, fun _ z => z⟩
  have h4 := S2.sl.put e0 h1 ho (A := A') (.nil_l fun _ z => z)
  rw [List.set_set] at h4
  exact ⟨F', A', ⟨S2.le, h4, S2.fr⟩, fun p => g.imp fun _ => rfl⟩
theorem zs_fz (i : Nat) (h : SSs X G W pn rest f) : SSs X G W pn rest (zFz i f) := PSs.of h fun D σ H q => by
  obtain ⟨F, ρ, A, S, q⟩ := q
  unfold zFz at q
  split at q
  · rename_i od e1
    obtain ⟨F', A', S', g⟩ := S.frzAt e1
    exact ⟨F', _, A', S', q.later (g false) .refl⟩
  · exact q.elim
end
/-! ### while -/
def zLoop (r : SM) : Fl → SM
  | .nx => r
  | .ct => r
  | .bk => fun ρ => .ok .nx ρ
  | .rt od => fun ρ => .ok (.rt od) ρ
def zWhile : Nat → M Bool → SM → SM
  | 0, _, _ => fun _ => .stuck
  | n + 1, c, f => fun ρ => (c ρ).bind fun b ρ1 => if b then (f ρ1).bind (zLoop (zWhile n c f)) else .ok .nx ρ1
section
variable {G : Gx} {W : WX} {pn : List Nat} {D : Ends} {F F' F1 F2 F3 H H' H1 H2 H3 : Hp} {A A' A1 A2 A3 : AS} {ρ ρ' κ : Env} {σ σ' ς : St} {X : Cx} {e : Expr} {st : Stmt} {rest a b : List Stmt} {f g : SM} {pos : Pos}
/-- a turn's body, towards the next turn -/
theorem turn_run {r : SM} {N : St → Hp → Prop} (S : Stt G F H ρ σ A) (h : Fin G W pn D F H A σ ((f ρ).bind (zLoop r)))
    (hN : ∀ ρ' F' H' σ' A', Go false F H A F' H' A' → Pin pn σ σ' → Stt G F' H' ρ' σ' A' → Fin G W pn D F' H' A' σ' (r ρ') → N σ' H') : TZ G W pn f { D with nx := N, ct := N, bk := D.nx } σ H := by
  refine ⟨F, ρ, A, S, ?_⟩
  cases e1 : f ρ with
  | stuck => rw [e1] at h; exact h
  | exc x ρ' => rw [e1] at h; exact h
  | ok fl ρ' =>
    rw [e1] at h
    simp only [Out.bind_ok] at h
    intro F' H' σ' A' g' p'
    cases fl with
    | nx => exact fun S' => hN ρ' F' H' σ' A' g' p' S' (h.later g' p')
    | ct => exact fun S' => hN ρ' F' H' σ' A' g' p' S' (h.later g' p')
    | bk => exact fun S' => h F' H' σ' A' g' p' S'
    | rt od => exact h F' H' σ' A' g' p'
theorem z_while (n : Nat) {c : Expr} {body : List Stmt} {p : Bool} {fc : M Bool} (hp : PassesOwn (model X.prog X.w) X.A X.env X.xe) (hc : SB X G W p c fc) (hb : SSs X G W pn body f) : SS X G W pn (.While c body [] pos) (zWhile n fc f) := PS.of (ps_while hp hc hb) fun D σ H h => by
  obtain ⟨F0, ρ0, A0, S0, h⟩ := h
  refine ⟨fun m σ H => ∃ F ρ A, Stt G F H ρ σ A ∧ Fin G W pn D F H A σ (zWhile m fc f ρ), ⟨n, F0, ρ0, A0, S0, h⟩, ?_⟩
  rintro m σ H ⟨F, ρ, A, S, h⟩
  cases m with
  | zero => exact h.elim
  | succ m =>
    refine TB.then S h fun b ρ' F' H' A' e1 g' S' h' => ?_
    cases b with
    | false => exact iteF (h'.nx S')
    | true => exact iteT ⟨fun σ H => ∃ F ρ A, Stt G F H ρ σ A ∧ Fin G W pn D F H A σ (zWhile m fc f ρ), fun σ2 H2 z => ⟨m, Nat.lt_succ_self m, z⟩, turn_run S' h' fun ρ2 F2 H2 σ2 A2 _ _ S2 h2 => ⟨F2, ρ2, A2, S2, h2⟩⟩
end
/-! ### for -/
/-- a target takes an item -/
inductive Tgt where
  | name (i : Nat)
  | tup (ts : List Nat)
def setAll : List Nat → List D → Env → Option Env
  | [], [], ρ => some ρ
  | i :: is, d :: ds, ρ => if i < ρ.length then setAll is ds (ρ.set i (some (.v d))) else none
  | _, _, _ => none
def Tgt.put : Tgt → D → Env → Option Env
  | .name i, d, ρ => if i < ρ.length then some (ρ.set i (some (.v d))) else none
  | .tup is, .tup ds, ρ => setAll is ds ρ
  | .tup _, _, _ => none
def Tgt.ix : Tgt → List Nat
  | .name i => [i]
  | .tup is => is
def zFor (tg : Tgt) (f : SM) : List D → SM
  | [] => fun ρ => .ok .nx ρ
  | d :: ds => fun ρ => match tg.put d ρ with
    | some ρ1 => (f ρ1).bind (zLoop (zFor tg f ds))
    | none => .stuck
/-- the readings of a target -/
def gNames : List Nat → TGs
  | [] => gNil
  | i :: is => gCons (gName i) (gNames is)
def Tgt.t (K : PySem.W.Frag) : Tgt → TG
  | .name i => gName i
  | .tup is => gTup K is.length (gNames is)
section
variable {G : Gx} {W : WX} {pn : List Nat} {D : Ends} {F F' F1 F2 F3 H H' H1 H2 H3 : Hp} {A A' A1 A2 A3 : AS} {ρ ρ' κ : Env} {σ σ' ς : St} {X : Cx} {e : Expr} {st : Stmt} {rest a b : List Stmt} {f g : SM} {pos : Pos}
theorem Stt.setv {d : Vs.D} {v : V} {i : Nat} (S : Stt G F H ρ σ A) (h : Rep G F d v) (hi : i < ρ.length) : ∃ A', Stt G F H (ρ.set i (some (.v d))) (σ.set i (some v)) A' ∧ ∀ a, A' a → A a := (S.push_v h).store hi
theorem names_run : ∀ {is : List Nat} {ds : List Vs.D} {vs : List V} {ρ ρ1 : Env} {σ : St} {A : AS} {Q : St → Hp → Prop}, Stt G F H ρ σ A → Reps G F ds vs → setAll is ds ρ = some ρ1 → (∀ i ∈ is, i ∉ pn) →
    (∀ σ' A', Stt G F H ρ1 σ' A' → (∀ a, A' a → A a) → Pin pn σ σ' → Q σ' H) → gNames is vs σ H Q
  | [], ds, vs, ρ, ρ1, σ, A, Q, S, r, e, hp, q => by
    cases ds with
    | nil =>
      simp only [setAll] at e; cases e
      simp only [Reps] at r
      exact ⟨r, q σ A S (fun _ h => h) .refl⟩
    | cons d ds => simp [setAll] at e
  | i :: is, ds, vs, ρ, ρ1, σ, A, Q, S, r, e, hp, q => by
    cases ds with
    | nil => simp [setAll] at e
    | cons d ds =>
      simp only [setAll] at e
      split at e
      · rename_i hi
        simp only [Reps] at r
        obtain ⟨v, vr, rfl, r1, r2⟩ := r
        obtain ⟨A1, S1, sub⟩ := S.setv r1 hi
        refine ⟨v, vr, rfl, ?_⟩
        exact names_run S1 r2 e (fun j hj => hp j (List.mem_cons_of_mem _ hj)) fun σ' A' S' s' p' => q σ' A' S' (fun a ha => sub a (s' a ha)) ((Pin.set (hp i List.mem_cons_self)).trans p')
      · cases e
theorem tgt_run {tg : Tgt} {d : Vs.D} {v : V} {ρ1 : Env} {Q : St → Hp → Prop} (S : Stt G F H ρ σ A) (r : Rep G F d v) (e : tg.put d ρ = some ρ1) (hp : ∀ i ∈ tg.ix, i ∉ pn)
    (q : ∀ σ' A', Stt G F H ρ1 σ' A' → (∀ a, A' a → A a) → Pin pn σ σ' → Q σ' H) : tg.t G.K v σ H Q := by
  cases tg with
  | name i =>
    simp only [Tgt.put] at e
    split at e
    · rename_i hi
      cases e
      obtain ⟨A1, S1, sub⟩ := S.setv r hi
      exact q _ A1 S1 sub (.set (hp i (by simp [Tgt.ix])))
    · cases e
  | tup is =>
    cases d with
    | tup ds =>
      simp only [Tgt.put] at e
      simp only [Rep] at r
      obtain ⟨a, vs, rfl, h1, h2⟩ := r
      have hlen : ds.length = is.length := by
        clear h1 h2 hp q S
        induction is generalizing ds ρ with
        | nil => cases ds with
          | nil => rfl
          | cons => simp [setAll] at e
        | cons i is ih => cases ds with
          | nil => simp [setAll] at e
          | cons d ds =>
            simp only [setAll] at e
            split at e
            · have := ih ds e
              simp [this]
            · cases e
      refine ⟨a, vs, rfl, S.le.sqt h1, by rw [h2.len, hlen], ?_⟩
      exact names_run S h2 e hp q
    | _ => simp [Tgt.put] at e
/-- the items that are walked: a list's, a tuple's, a text's -/
def strD (s : Str) : List Vs.D := s.cps.toList.map fun c => .str ⟨#[c]⟩
def items : Vs.D → Option (List Vs.D)
  | .lst ds => some ds
  | .rol ds => some ds
  | .tup ds => some ds
  | .str s => some (strD s)
  | _ => none
/-- a walk over n things that no turn changes: yv tells them, P what must hold -/
structure Wk (J : It) (P : Hp → Prop) (yv : List V) : Prop where
  go : ∀ i H x, P H → yv[i]? = some x → J.go i H
  yld : ∀ i H x y H', P H → yv[i]? = some x → J.yld i H y H' → y = x ∧ H' = H
  stop : ∀ H, P H → J.stop yv.length H
theorem wk_list {K : PySem.W.Frag} {a : Addr} {xs : List V} : Wk (Itl K a) (fun H => SqL K H a xs) xs where
  go := fun i H x p e => ⟨xs, x, p, e⟩
  yld := fun i H x y H' p e h => ⟨by have := h.2 xs p; rw [e] at this; exact (Option.some.inj this).symm, h.1⟩
  stop := fun H p => ⟨xs, p, Nat.le_refl _⟩
theorem wk_tup {K : PySem.W.Frag} {a : Addr} {xs : List V} : Wk (Itt K a) (fun H => SqT K H a xs) xs where
  go := fun i H x p e => ⟨xs, x, p, e⟩
  yld := fun i H x y H' p e h => ⟨by have := h.2 xs p; rw [e] at this; exact (Option.some.inj this).symm, h.1⟩
  stop := fun H p => ⟨xs, p, Nat.le_refl _⟩
def strV (s : Str) : List V := s.cps.toList.map fun c => .str ⟨#[c]⟩
theorem wk_str {z : Str} : Wk (Its z) (fun _ => True) (strV z) where
  go := fun i H x _ e => by
    have := (List.getElem?_eq_some_iff.mp e).1
    show i < z.cps.size
    simpa [strV] using this
  yld := fun i H x y H' _ e h => by
    obtain ⟨h1, c, hc, rfl⟩ := h
    refine ⟨?_, h1⟩
    simp only [strV, List.getElem?_map, Array.getElem?_toList, hc, Option.map_some, Option.some.injEq] at e
    exact e
  stop := fun H _ => by show z.cps.size ≤ _; simp [strV]
def rngV (lo : Int) (n : Nat) : List V := (List.range n).map fun (k : Nat) => .int (lo + (k : Int))
def rngD (lo : Int) (n : Nat) : List Vs.D := (List.range n).map fun (k : Nat) => .int (lo + (k : Int))
theorem wk_rng {lo : Int} {n : Nat} : Wk (Itr lo n) (fun _ => True) (rngV lo n) where
  go := fun i H x _ e => by
    have := (List.getElem?_eq_some_iff.mp e).1
    show i < n
    simpa [rngV] using this
  yld := fun i H x y H' _ e h => by
    obtain ⟨h1, rfl⟩ := h
    refine ⟨?_, h1⟩
    have hi : i < n := by simpa [rngV] using (List.getElem?_eq_some_iff.mp e).1
    simp only [rngV, List.getElem?_map, List.getElem?_range hi, Option.map_some, Option.some.injEq] at e
    exact e
  stop := fun H _ => by show n ≤ _; simp [rngV]
theorem reps_str {z : Str} : Reps G F (strD z) (strV z) := .map fun c _ => by simp only [Rep]
theorem reps_rng {lo : Int} {n : Nat} : Reps G F (rngD lo n) (rngV lo n) := .map fun c _ => by simp only [Rep]
/-- the loop over a walk -/
theorem walk_run {J : It} {P : Hp → Prop} {yv : List V} {tg : Tgt} (w : Wk J P yv) {ds : List Vs.D} (S : Stt G F H ρ σ A) (r : Reps G F ds yv) (hP : ∀ F' H', Le F F' → Le F' H' → P H') (hp : ∀ i ∈ tg.ix, i ∉ pn)
    (h : Fin G W pn D F H A σ (zFor tg f ds ρ)) :
    ∃ W' : Nat → Nat → St → Hp → Prop, (∃ m, W' 0 m σ H) ∧ ∀ i m σ H, W' i m σ H → (J.stop i H ∧ D.nx σ H) ∨ (J.go i H ∧ ∃ N : St → Hp → Prop, (∀ σ' H', N σ' H' → ∃ m', m' < m ∧ W' (i + 1) m' σ' H') ∧
      ∀ x H', J.yld i H x H' → tg.t G.K x σ H' fun σ2 H2 => TZ G W pn f { D with nx := N, ct := N, bk := D.nx } σ2 H2) := by
  refine ⟨fun i m σ' H' => m = yv.length - i ∧ i ≤ yv.length ∧ ∃ F' ρ' A', Le F F' ∧ Stt G F' H' ρ' σ' A' ∧ Fin G W pn D F' H' A' σ' (zFor tg f (ds.drop i) ρ'), ⟨yv.length, by simp, Nat.zero_le _, F, ρ, A, .refl _, S, h⟩, ?_⟩
  rintro i m σ1 H1 ⟨rfl, hi, F1, ρ1, A1, le1, S1, h1⟩
  have p1 := hP F1 H1 le1 S1.le
  have hlen := r.len
  by_cases hlt : i < yv.length
  · right
    have ey : yv[i]? = some yv[i] := List.getElem?_eq_getElem hlt
    have hd : i < ds.length := by omega
    have ed : ds[i]? = some ds[i] := List.getElem?_eq_getElem hd
    refine ⟨w.go i H1 _ p1 ey, fun σ' H' => yv.length - (i + 1) < yv.length - i ∧ i + 1 ≤ yv.length ∧ ∃ F' ρ' A', Le F F' ∧ Stt G F' H' ρ' σ' A' ∧ Fin G W pn D F' H' A' σ' (zFor tg f (ds.drop (i + 1)) ρ'),
      fun σ' H' z => ⟨yv.length - (i + 1), z.1, rfl, z.2⟩, fun x H' y => ?_⟩
    obtain ⟨rfl, rfl⟩ := w.yld i H1 _ x H' p1 ey y
    rw [List.drop_eq_getElem_cons hd] at h1
    simp only [zFor] at h1
    cases ep : tg.put ds[i] ρ1 with
    | none => rw [ep] at h1; exact h1.elim
    | some ρ2 =>
      rw [ep] at h1
      have rd : Rep G F1 ds[i] yv[i] := by
        obtain ⟨v, e1, e2⟩ := r.get ed
        rw [ey] at e1; cases e1
        exact e2.mono le1
      refine tgt_run S1 rd ep hp fun σ2 A2 S2 sub p2 => ?_
      refine turn_run S2 (h1.later (Go.refl.less sub) p2) fun ρ3 F3 H3 σ3 A3 g3 _ S3 h3 => ⟨by omega, by omega, F3, ρ3, A3, le1.trans g3.le, S3, h3⟩
  · left
    have e : i = yv.length := by omega
    subst e
    rw [List.drop_eq_nil_of_le (by omega)] at h1
    exact ⟨w.stop H1 p1, h1.nx S1⟩
end
/-! ### what is walked -/
def AnyW (K : PySem.W.Frag) (x : V) (H1 : Hp) (R : It → Hp → Prop) : Prop := (∃ a xs, x = .ref a ∧ SqL K H1 a xs ∧ R (Itl K a) H1) ∨ (∃ a xs, x = .ref a ∧ SqT K H1 a xs ∧ R (Itt K a) H1) ∨ ∃ z, x = .str z ∧ R (Its z) H1
def iAny (K : PySem.W.Frag) (tl : TE) : TI := fun σ H R => tl σ H fun x H1 => AnyW K x H1 R
section
variable {X : Cx} {tg l : Expr} {tl : TE}
theorem pi_any (hl : PE X l tl) : PI X tg l (iAny X.K tl) := by
  constructor
  intro pins s σ H R I h
  refine thn (hl.run pins s σ H _ I h) ?_
  rintro v s1 ⟨x, H1, I1, r1, ⟨a, xs, rfl, hq, q⟩ | ⟨a, xs, rfl, hq, q⟩ | ⟨z, rfl, q⟩⟩
  · obtain rfl : v = .ref a := r1
    obtain ⟨its, rv, p, hz⟩ := I1.list hq
    exact wpAny_pyIter_list p.isList (pi_one (tk := s1.toks) I1 _ (turn_list a _) ⟨_, Heap.get?_push_size _ rfl, rfl, rfl⟩ q)
  · obtain rfl : v = .ref a := r1
    obtain ⟨its, rv, p, hz⟩ := I1.tuple hq
    exact wpAny_pyIter_tuple (show s1.heap.IsTuple a its.toArray from p) (pi_one (tk := s1.toks) I1 _ (turn_tuple a _) ⟨_, Heap.get?_push_size _ rfl, rfl, rfl⟩ q)
  · obtain ⟨t, rfl⟩ := r1
    by_cases ha : z.cps.all (· < 128) = true
    · exact wpAny_pyIter_ascii ha (pi_one (tk := s1.toks) I1 _ (turn_str _ z t "str_ascii_iterator" (.inl rfl)) ⟨_, Heap.get?_push_size _ rfl, rfl, rfl⟩ q)
    · exact wpAny_pyIter_wide (by simpa using ha) (pi_one (tk := s1.toks) I1 _ (turn_str _ z t "str_iterator" (.inr rfl)) ⟨_, Heap.get?_push_size _ rfl, rfl, rfl⟩ q)
end
/-- the items of a value -/
def zIt (f : M OD) : M (List D) := fun ρ => (f ρ).bind fun od ρ' => match items od.fz with
  | some ds => .ok ds ρ'
  | none => .stuck
def zForIn (it : M (List D)) (tg : Tgt) (f : SM) : SM := fun ρ => (it ρ).bind fun ds ρ' => zFor tg f ds ρ'
/-- range's items -/
def zRng1 (f : M OD) : M (List D) := fun ρ => (f ρ).bind fun od ρ' => match od with
  | .v (.int n) => if -(2 ^ 62) ≤ n ∧ n < 2 ^ 62 then .ok (rngD 0 n.toNat) ρ' else .stuck
  | _ => .stuck
def zRng2 (f g : M OD) : M (List D) := fun ρ => (f ρ).bind fun od ρ' => (g ρ').bind fun od2 ρ'' => match od, od2 with
  | .v (.int i), .v (.int j) => if -(2 ^ 62) ≤ i ∧ i < 2 ^ 62 ∧ -(2 ^ 62) ≤ j ∧ j < 2 ^ 62 then .ok (rngD i (j - i).toNat) ρ'' else .stuck
  | _, _ => .stuck
section
variable {G : Gx} {W : WX} {pn : List Nat} {D : Ends} {F F' F1 F2 F3 H H' H1 H2 H3 : Hp} {A A' A1 A2 A3 : AS} {ρ ρ' κ : Env} {σ σ' ς : St} {X : Cx} {e : Expr} {st : Stmt} {rest a b : List Stmt} {f g : SM} {pos : Pos} {tgt iter : Expr} {body : List Stmt}
/-- the walk that a value gives -/
theorem any_run {x : Vs.D} {v : V} {ds : List Vs.D} {R : It → Hp → Prop} (le : Le F H) (r : Rep G F x v) (e : items x = some ds)
    (h : ∀ J P yv, Wk J P yv → Reps G F ds yv → (∀ F' H', Le F F' → Le F' H' → P H') → R J H) : AnyW G.K v H R := by
  cases x with
  | lst es =>
    simp only [items] at e; cases e
    simp only [Rep] at r
    obtain ⟨a, vs, rfl, h1, h2⟩ := r
    exact .inl ⟨a, vs, rfl, .of (le _ _ h1), h _ _ _ (wk_list (xs := vs)) h2 fun F' H' l1 l2 => .of ((l1.trans l2) _ _ h1)⟩
  | rol es =>
    simp only [items] at e; cases e
    simp only [Rep] at r
    obtain ⟨a, vs, rfl, h1, h2⟩ := r
    exact .inl ⟨a, vs, rfl, le.sql h1, h _ _ _ (wk_list (xs := vs)) h2 fun F' H' l1 l2 => (l1.trans l2).sql h1⟩
  | tup es =>
    simp only [items] at e; cases e
    simp only [Rep] at r
    obtain ⟨a, vs, rfl, h1, h2⟩ := r
    exact .inr (.inl ⟨a, vs, rfl, le.sqt h1, h _ _ _ (wk_tup (xs := vs)) h2 fun F' H' l1 l2 => (l1.trans l2).sqt h1⟩)
  | str s =>
    simp only [items] at e; cases e
    simp only [Rep] at r
    exact .inr (.inr ⟨s, r, h _ _ _ wk_str reps_str fun _ _ _ _ => trivial⟩)
  | _ => simp [items] at e
theorem z_for {p : Bool} {fi : M OD} {tg : Tgt} (hG : G.K = X.K) (hpo : PassesOwn (model X.prog X.w) X.A X.env X.xe) (hc : X.calm = true) (hi : SX X G W p iter fi) (hg : PG X tgt (tg.t G.K)) (hb : SSs X G W pn body f) (hp : ∀ i ∈ tg.ix, i ∉ pn)
    (hs : ∀ x, foldedSetIterable iter X.env x = pure x := by intro _; rfl) : SS X G W pn (.For tgt iter body [] pos) (zForIn (zIt fi) tg f) := PS.of (ps_for hpo hc (pi_any hi) hg hb hs) fun D σ H h => by
  obtain ⟨F, ρ, A, S, h⟩ := h
  unfold zForIn zIt at h
  rw [← hG]
  refine ⟨F, ρ, A, [], [], S, rfl, ?_⟩
  cases e1 : fi ρ with
  | stuck => rw [e1] at h; exact h
  | exc x ρ' => rw [e1] at h; exact h.exc
  | ok od ρ' =>
    rw [e1] at h
    simp only [Out.bind_ok] at h
    intro F' H' v A' g' S'
    obtain ⟨F2, A2, hr, S2, g2, _⟩ := Stt.frz (p := false) S'
    cases e2 : items od.fz with
    | none => rw [e2] at h; exact h.elim
    | some ds =>
      rw [e2] at h
      simp only [Out.bind_ok] at h
      have h' := h.later ((g'.trans g2).imp fun z => by cases z) .refl
      exact any_run S2.le hr e2 fun J P yv w r pp => walk_run w S2 r pp hp h'
theorem z_forR1 {p : Bool} {e1 : Expr} {q q2 : Pos} {fi : M OD} {tg : Tgt} (hpo : PassesOwn (model X.prog X.w) X.A X.env X.xe) (hc : X.calm = true) (hgl : Gl X "range") (hm : X.mg "range" = none) (ha : PA X [e1] (tCons (TX G W p fi) tNil)) (hg : PG X tgt (tg.t G.K)) (hb : SSs X G W pn body f) (hp : ∀ i ∈ tg.ix, i ∉ pn)
    (hs : ∀ x, foldedSetIterable (.Call (.Name "range" q) [e1] [] q2) X.env x = pure x := by intro _; rfl) (hst : starEach [e1] X.env = [(false, eval e1 X.env)] := by rfl) : SS X G W pn (.For tgt (.Call (.Name "range" q) [e1] [] q2) body [] pos) (zForIn (zRng1 fi) tg f) :=
  PS.of (ps_for hpo hc (pi_range1 hgl hm ha hst) hg hb hs) fun D σ H h => by
  obtain ⟨F, ρ, A, S, h⟩ := h
  unfold zForIn zRng1 at h
  refine ⟨F, ρ, A, [], [], S, rfl, ?_⟩
  cases e1 : fi ρ with
  | stuck => rw [e1] at h; exact h
  | exc x ρ' => rw [e1] at h; exact h.exc
  | ok od ρ' =>
    rw [e1] at h
    simp only [Out.bind_ok] at h
    intro F' H' v A' g' S'
    split at h
    · rename_i n
      split at h
      · rename_i hn
        obtain ⟨hr, S2⟩ := S'.pop_v
        simp only [Rep] at hr
        simp only [Out.bind_ok] at h
        exact ⟨n, by rw [hr], hn.1, hn.2, walk_run wk_rng S2 reps_rng (fun _ _ _ _ => trivial) hp (h.later (g'.imp fun z => by cases z) .refl)⟩
      · exact h.elim
    · exact h.elim
theorem z_forR2 {p p' : Bool} {e1 e2 : Expr} {q q2 : Pos} {fi fj : M OD} {tg : Tgt} (hpo : PassesOwn (model X.prog X.w) X.A X.env X.xe) (hc : X.calm = true) (hgl : Gl X "range") (hm : X.mg "range" = none) (ha : PA X [e1, e2] (tCons (TX G W p fi) (tCons (TX G W p' fj) tNil))) (hg : PG X tgt (tg.t G.K)) (hb : SSs X G W pn body f) (hp : ∀ i ∈ tg.ix, i ∉ pn)
    (hs : ∀ x, foldedSetIterable (.Call (.Name "range" q) [e1, e2] [] q2) X.env x = pure x := by intro _; rfl) (hst : starEach [e1, e2] X.env = [(false, eval e1 X.env), (false, eval e2 X.env)] := by rfl) (hst2 : starEach [e2] X.env = [(false, eval e2 X.env)] := by rfl) : SS X G W pn (.For tgt (.Call (.Name "range" q) [e1, e2] [] q2) body [] pos) (zForIn (zRng2 fi fj) tg f) :=
  PS.of (ps_for hpo hc (pi_range2 hgl hm ha hst hst2) hg hb hs) fun D σ H h => by
  obtain ⟨F, ρ, A, S, h⟩ := h
  unfold zForIn zRng2 at h
  refine ⟨F, ρ, A, [], [], S, rfl, ?_⟩
  cases e1 : fi ρ with
  | stuck => rw [e1] at h; exact h
  | exc x ρ' => rw [e1] at h; exact h.exc
  | ok od ρ' =>
    rw [e1] at h
    simp only [Out.bind_ok] at h
    intro F' H' v A' g' S'
    refine ⟨F', ρ', A', [some od], [some v], S', rfl, ?_⟩
    cases e2 : fj ρ' with
    | stuck => rw [e2] at h; exact h
    | exc x ρ2 =>
      rw [e2] at h
      intro F2 H2 A2 cls d g2 S2 xr
      obtain ⟨A3, S3, sub⟩ := Stt.dropTop (show Stt G F2 H2 (some od :: ρ2) (some v :: σ) A2 from S2)
      exact h F2 H2 σ A3 cls d (((g'.trans g2).imp fun z => by cases z).less sub) .refl S3 xr
    | ok od2 ρ2 =>
      rw [e2] at h
      simp only [Out.bind_ok] at h
      intro F2 H2 v2 A2 g2 S2
      split at h
      · rename_i i j
        split at h
        · rename_i hn
          obtain ⟨hr, S3⟩ := S2.pop_v
          obtain ⟨hr1, S4⟩ := Stt.pop_v (show Stt G F2 H2 (some (.v (.int i)) :: ρ2) (some v :: σ) A2 from S3)
          simp only [Rep] at hr hr1
          simp only [Out.bind_ok] at h
          exact ⟨i, j, by rw [hr, hr1], hn, walk_run wk_rng S4 reps_rng (fun _ _ _ _ => trivial) hp (h.later ((g'.trans g2).imp fun z => by cases z) .refl)⟩
        · exact h.elim
      · exact h.elim
end
end Vs
/-! VsE: defs and their calls. -/
namespace Vs
open PySem L2
/-- what a def does: of its arguments, its value; behind it the slots of its parameters that stand for the caller's things -/
abbrev FnM := List OD → Out OD
def back : List Bool → Env → Env
  | [], _ => []
  | b :: bs, [] => none :: back bs []
  | true :: bs, x :: ρ => x :: back bs ρ
  | false :: bs, _ :: ρ => none :: back bs ρ
def defM (n : Nat) (mask : List Bool) (m : SM) : FnM := fun ods =>
  if ods.length = mask.length then
    match m (ods.map some ++ List.replicate (n - ods.length) none) with
    | .ok (.rt od) ρ' => .ok od (back mask ρ')
    | .ok .nx ρ' => .ok (.v .non) (back mask ρ')
    | .ok _ _ => .stuck
    | .exc x ρ' => .exc x (back mask ρ')
    | .stuck => .stuck
  else .stuck
def pnOf : List Bool → Nat → List Nat
  | [], _ => []
  | true :: bs, i => i :: pnOf bs (i + 1)
  | false :: bs, i => pnOf bs (i + 1)
def spOf (G : Gx) (f : FnM) : Sp := fun vs H Q E => ∃ F ods A, Stt G F H (ods.map some) (vs.map some) A ∧ match f ods with
  | .ok od bk => ∀ F' H' v A', Go false F H A F' H' A' → Stt G F' H' (some od :: bk) (some v :: vs.map some) A' → Q v H'
  | .exc x bk => ∀ F' H' A' cls d, Go false F H A F' H' A' → Stt G F' H' bk (vs.map some) A' → XRep G F' H' x cls d → E cls d H'
  | .stuck => False
section
variable {G : Gx} {W : WX} {pn : List Nat} {F F' F1 F2 F3 H H' H1 H2 H3 : Hp} {A A' A1 A2 A3 : AS} {ρ ρ' κ : Env} {σ σ' ς : St} {X : Cx} {e : Expr}
theorem pnOf_mem : ∀ {mask : List Bool} {k i : Nat}, mask[i]? = some true → k + i ∈ pnOf mask k
  | [], k, i, h => by simp at h
  | true :: bs, k, 0, h => by simp [pnOf]
  | false :: bs, k, 0, h => by simp at h
  | true :: bs, k, i + 1, h => by
    have := pnOf_mem (mask := bs) (k := k + 1) (i := i) (by simpa using h)
    simp only [pnOf, List.mem_cons]
    right
    have e : k + (i + 1) = k + 1 + i := by omega
    rw [e]; exact this
  | false :: bs, k, i + 1, h => by
    have := pnOf_mem (mask := bs) (k := k + 1) (i := i) (by simpa using h)
    simp only [pnOf]
    have e : k + (i + 1) = k + 1 + i := by omega
    rw [e]; exact this
theorem back_run : ∀ {mask : List Bool} {ρ : Env} {σ : St} {vs : List V} {A : AS}, Sl G F H ρ σ A → mask.length = vs.length → (∀ (i : Nat) (v : V), mask[i]? = some true → vs[i]? = some v → σ[i]? = some (some v)) →
    ∃ A', Sl G F H (back mask ρ) (vs.map some) A' ∧ ∀ a, A' a → A a
  | [], ρ, σ, vs, A, h, hl, k => by
    cases vs with
    | nil => exact ⟨fun _ => False, by simp [back, Sl], fun _ z => z.elim⟩
    | cons => simp at hl
  | b :: bs, ρ, σ, vs, A, h, hl, k => by
    cases vs with
    | nil => simp at hl
    | cons v vs =>
      have hl' : bs.length = vs.length := by simpa using hl
      cases ρ with
      | nil =>
        simp only [Sl] at h
        have h' : Sl G F H [] [] A := by simp only [Sl]; exact ⟨trivial, h.2⟩
        have k' : ∀ i v, bs[i]? = some true → vs[i]? = some v → ([] : St)[i]? = some (some v) := fun i u e1 e2 => by
          have := k (i + 1) u (by simpa using e1) (by simpa using e2)
          rw [h.1] at this; simpa using this
        obtain ⟨A', h2, sub⟩ := back_run h' hl' k'
        refine ⟨A', ?_, sub⟩
        cases b <;> (simp only [back, List.map_cons, Sl]; exact ⟨_, _, rfl, h2⟩)
      | cons x ρ =>
        have hσ := h.len
        cases σ with
        | nil => simp at hσ
        | cons y σ =>
          have k' : ∀ i v, bs[i]? = some true → vs[i]? = some v → σ[i]? = some (some v) := fun i u e1 e2 => by
            have := k (i + 1) u (by simpa using e1) (by simpa using e2)
            simpa using this
          cases b with
          | false =>
            have : ∃ A0, Sl G F H ρ σ A0 ∧ ∀ a, A0 a → A a := by
              cases x with
              | none =>
                simp only [Sl] at h
                obtain ⟨x, r, e, h⟩ := h
                injection e with e1 e2; subst e1 e2
                exact ⟨A, h, fun _ z => z⟩
              | some od =>
                simp only [Sl] at h
                obtain ⟨x, r, B1, B2, e, _, h, c⟩ := h
                injection e with e1 e2; subst e1 e2
                exact ⟨B2, h, fun _ z => c.r z⟩
            obtain ⟨A0, h0, s0⟩ := this
            obtain ⟨A', h2, sub⟩ := back_run h0 hl' k'
            refine ⟨A', ?_, fun a z => s0 a (sub a z)⟩
            simp only [back, List.map_cons, Sl]; exact ⟨_, _, rfl, h2⟩
          | true =>
            have ey : y = some v := by
              have := k 0 v rfl rfl
              simpa using this
            subst ey
            cases x with
            | none =>
              simp only [Sl] at h
              obtain ⟨x, r, e, h⟩ := h
              injection e with e1 e2; subst e1 e2
              obtain ⟨A', h2, sub⟩ := back_run h hl' k'
              refine ⟨A', ?_, sub⟩
              simp only [back, List.map_cons, Sl]; exact ⟨_, _, rfl, h2⟩
            | some od =>
              simp only [Sl] at h
              obtain ⟨x, r, B1, B2, e, ho, h, c⟩ := h
              injection e with e1 e2; injection e1 with e1; subst e1 e2
              obtain ⟨A', h2, sub⟩ := back_run h hl' k'
              refine ⟨fun a => B1 a ∨ A' a, ?_, fun a z => z.elim (fun b => c.l b) fun b => c.r (sub a b)⟩
              simp only [back, List.map_cons, Sl]
              exact ⟨_, _, B1, A', rfl, ho, h2, .mk' _ _ fun a b1 b2 => c.2 a b1 (sub a b2)⟩
theorem Sl.nones : ∀ {n : Nat}, Sl G F H (List.replicate n none) (List.replicate n none) fun _ => False
  | 0 => by simp [Sl]
  | n + 1 => by simp only [List.replicate_succ, Sl]; exact ⟨_, _, rfl, Sl.nones⟩
/-- THE RULE for a def -/
theorem def_ok {P : Program} {w : World} {K : PySem.W.Frag} {mg : Str → Option Value} {base : Heap} {x qual : Str} {st : Stmt} {f : Addr} {fd : FuncData} {N ps : List Str} {k : Nat} {mask : List Bool} {m : SM} (Fn : Fun K x qual st f fd) (S : FnScope N ps (defScope st))
    (hm : mask.length = ps.length)
    (hb : ∀ (cdv : Value) (A : Around) (outer : List PySem.Env) (s : Shared) (H : Hp) (E : XK), Room k (A.deeper (PyProof.Rows.envOfC qual (defScope st) s.heap.objs.size f cdv)) →
      SSs (cxOf (L2.CX P w) P w K mg base N qual (defScope st) f cdv A outer s H E) G (fun cls d _ H => E cls d H) (pnOf mask 0) (defBody st) m) :
    FnOk P w K mg base (L2.CX P w) (k + 1) f fd ps (spOf G (defM N.length mask m)) := by
  refine Fn.okX S (fun vs H Q E h => ?_) fun cdv A outer s H vs Q E hr h => ?_
  · obtain ⟨F, ods, A, S1, h⟩ := h
    have hl := S1.sl.len
    simp only [List.length_map] at hl
    unfold defM at h
    by_cases hlo : ods.length = mask.length
    · omega
    · rw [if_neg hlo] at h; exact h.elim
  · obtain ⟨F, ods, A0, S1, h⟩ := h
    have hl := S1.sl.len
    simp only [List.length_map] at hl
    unfold defM at h
    by_cases hlo : ods.length = mask.length
    · rw [if_pos hlo] at h
      refine ⟨_, hb cdv A outer s H E hr, ?_⟩
      have hst : L2.start N vs = vs.map some ++ List.replicate (N.length - ods.length) none := by unfold L2.start; rw [hl]
      have SJ : Stt G F H (ods.map some ++ List.replicate (N.length - ods.length) none) (L2.start N vs) A0 := by
        rw [hst]
        exact ⟨S1.le, S1.sl.join Sl.nones (.nil_r fun _ z => z), S1.fr⟩
      have pinv : ∀ {σ' : St}, Pin (pnOf mask 0) (L2.start N vs) σ' → ∀ i v, mask[i]? = some true → vs[i]? = some v → σ'[i]? = some (some v) := fun {σ'} p i v e1 e2 => by
        have := p i (by have := pnOf_mem (k := 0) e1; simpa using this)
        rw [this, hst, List.getElem?_append_left (by simpa using (List.getElem?_eq_some_iff.mp e2).1), List.getElem?_map, e2]
        rfl
      have hml : mask.length = vs.length := by omega
      refine ⟨F, _, A0, SJ, ?_⟩
      cases eq : m (ods.map some ++ List.replicate (N.length - ods.length) none) with
      | stuck => rw [eq] at h; exact h.elim
      | exc x ρ' =>
        rw [eq] at h
        intro F' H' σ' A' cls d g p S' xr
        obtain ⟨A2, h3, sub⟩ := back_run S'.sl hml (pinv p)
        exact h F' H' A2 cls d (g.less sub) ⟨S'.le, h3, fun a z => S'.fr a (sub a z)⟩ xr
      | ok fl ρ' =>
       rw [eq] at h
       cases fl with
       | bk => exact h.elim
       | ct => exact h.elim
       | rt od =>
        intro F' H' σ' A' g p v S'
        obtain ⟨B, A1, h1, S2, c, hB⟩ := S'.pop
        obtain ⟨A2, h3, sub⟩ := back_run S2.sl hml (pinv p)
        refine h F' H' v (fun a => B a ∨ A2 a) (g.less fun a z => z.elim (fun b => c.l b) fun b => c.r (sub a b)) ⟨S2.le, ?_, fun a z => z.elim (hB a) fun b => S2.fr a (sub a b)⟩
        simp only [Sl]
        exact ⟨_, _, B, A2, rfl, h1, h3, .mk' _ _ fun a b1 b2 => c.2 a b1 (sub a b2)⟩
       | nx =>
        intro F' H' σ' A' g p S'
        obtain ⟨A2, h3, sub⟩ := back_run S'.sl hml (pinv p)
        exact h F' H' .non A2 (g.less sub) (Stt.push_v ⟨S'.le, h3, fun a z => S'.fr a (sub a z)⟩ (by simp only [Rep]))
    · rw [if_neg hlo] at h; exact h.elim
end
/-! ### calls -/
def takeAll : List DV → Env → Option (List OD × Env)
  | [], ρ => some ([], ρ)
  | .own od :: ds, ρ => (takeAll ds ρ).map fun r => (.v od.fz :: r.1, r.2)
  | .plc i :: ds, ρ => match ρ[i]? with
    | some (some od) => (takeAll ds (ρ.set i none)).map fun r => (od :: r.1, r.2)
    | _ => none
def putBack : List DV → Env → Env → Env
  | .plc i :: ds, x :: bk, ρ => putBack ds bk (match ρ[i]? with
    | some none => ρ.set i x
    | _ => ρ)
  | .own _ :: ds, _ :: bk, ρ => putBack ds bk ρ
  | _, _, ρ => ρ
def doCall (f : FnM) (ds : List DV) (ρ : Env) : Out OD := match takeAll ds ρ with
  | some (ods, ρ2) => match f ods with
    | .ok od bk => .ok od (putBack ds bk ρ2)
    | .exc x bk => .exc x (putBack ds bk ρ2)
    | .stuck => .stuck
  | none => .stuck
def mCall (f : FnM) (as : List Opd) : M OD := fun ρ => if okPl ρ as then (evAll as ρ).bind (doCall f) else .stuck
def noPlc : List Opd → Bool
  | [] => true
  | .val _ _ :: as => noPlc as
  | .plc _ :: _ => false
section
variable {G : Gx} {W : WX} {pn : List Nat} {F F' F1 F2 F3 H H' H1 H2 H3 : Hp} {A A' A1 A2 A3 : AS} {ρ ρ' κ : Env} {σ σ' ς : St} {X : Cx} {e : Expr}
theorem Stt.raise {x : Option OD} {v : Option V} {ξ : Env} {τ : St} (hl : τ.length = ξ.length) (S : Stt G F H (x :: (ξ ++ ρ)) (v :: (τ ++ σ)) A) : Stt G F H (ξ ++ x :: ρ) (τ ++ v :: σ) A := by
  obtain ⟨le, sl, fr⟩ := S
  refine ⟨le, ?_, fr⟩
  cases x with
  | none =>
    simp only [Sl] at sl
    obtain ⟨y, r, e, h⟩ := sl
    injection e with e1 e2; subst e1 e2
    obtain ⟨A1, A2, h1, h2, c⟩ := h.app hl
    exact h1.join (by simp only [Sl]; exact ⟨_, _, rfl, h2⟩) c
  | some od =>
    simp only [Sl] at sl
    obtain ⟨y, r, B1, B2, e, ho, h, c0⟩ := sl
    injection e with e1 e2; subst e1 e2
    obtain ⟨A1, A2, h1, h2, c⟩ := h.app hl
    obtain ⟨Y, c3, c4⟩ := c0.symm.assoc c
    exact h1.join (A2 := Y) (by simp only [Sl]; exact ⟨_, _, _, _, rfl, ho, h2, c4.symm⟩) c3
theorem takeAll_len : ∀ {ds : List DV} {ρ : Env} {z : List OD × Env}, takeAll ds ρ = some z → z.1.length = ds.length ∧ z.2.length = ρ.length
  | [], ρ, z, h => by simp only [takeAll] at h; cases h; exact ⟨rfl, rfl⟩
  | .own od :: ds, ρ, z, h => by
    simp only [takeAll] at h
    cases q : takeAll ds ρ with
    | none => rw [q] at h; cases h
    | some y =>
      rw [q] at h; cases h
      have := takeAll_len q
      exact ⟨by simp [this.1], this.2⟩
  | .plc j :: ds, ρ, z, h => by
    simp only [takeAll] at h
    split at h
    · cases q : takeAll ds (ρ.set j none) with
      | none => rw [q] at h; cases h
      | some y =>
        rw [q] at h; cases h
        have := takeAll_len q
        exact ⟨by simp [this.1], by simpa using this.2⟩
    · cases h
theorem take_run : ∀ {ds : List DV} {ods : List OD} {vs : List V} {F : Hp} {A : AS} {ρ ρ2 : Env} {κ : Env} {ς : St}, Stt G F H (ds.map DV.slot ++ (κ ++ ρ)) (vs.map some ++ (ς ++ σ)) A → ς.length = κ.length → Lnk σ ds vs → takeAll ds ρ = some (ods, ρ2) →
    ∃ F' A', Stt G F' H (ods.map some ++ (κ ++ ρ2)) (vs.map some ++ (ς ++ σ)) A' ∧ Go true F H A F' H A'
  | [], ods, vs, F, A, ρ, ρ2, κ, ς, S, hl, l, e => by
    simp only [takeAll] at e; cases e
    simp only [Lnk] at l; subst l
    exact ⟨F, A, S, .refl⟩
  | .own od :: ds, ods, vs, F, A, ρ, ρ2, κ, ς, S, hl, l, e => by
    simp only [Lnk] at l
    obtain ⟨v, r, rfl, l⟩ := l
    simp only [takeAll] at e
    cases q : takeAll ds ρ with
    | none => rw [q] at e; cases e
    | some z =>
      obtain ⟨ods', ρ3⟩ := z
      rw [q] at e; cases e
      obtain ⟨F1, A1, h1, S1, g1, le1⟩ := Stt.frz (p := true) S
      obtain ⟨F2, A2, S2, g2⟩ := take_run S1 hl l q
      refine ⟨F2, A2, S2.push_v (h1.mono g2.le), g1.trans g2⟩
  | .plc i :: ds, ods, vs, F, A, ρ, ρ2, κ, ς, S, hl, l, e => by
    simp only [Lnk] at l
    obtain ⟨v, r, rfl, lv, l⟩ := l
    simp only [takeAll] at e
    split at e
    · rename_i od e0
      cases q : takeAll ds (ρ.set i none) with
      | none => rw [q] at e; cases e
      | some z =>
        obtain ⟨ods', ρ3⟩ := z
        rw [q] at e; cases e
        have S0 : Stt G F H (ds.map DV.slot ++ (κ ++ ρ)) (r.map some ++ (ς ++ σ)) A := S.pop_n
        -- the slot's thing comes to the top, above the operands' slots, then below them
        have hl0 : (r.map some).length = (ds.map DV.slot).length := by simp [l.len]
        have ei : (ds.map DV.slot ++ (κ ++ ρ))[(ds.map DV.slot).length + (κ.length + i)]? = some (some od) := getKap (getKap e0)
        obtain ⟨w, A1, A2, h1, h2, h3, c⟩ := S0.sl.at ei
        rw [getSig hl0, getSig hl, lv] at h1
        cases h1
        rw [setKap, setKap] at h3
        have S1 : Stt G F H (some od :: (ds.map DV.slot ++ (κ ++ ρ.set i none))) (some v :: (r.map some ++ (ς ++ σ))) A := ⟨S0.le, by simp only [Sl]; exact ⟨_, _, _, _, rfl, h2, h3, c⟩, S0.fr⟩
        have S2 := S1.raise hl0
        obtain ⟨F2, A3, S3, g3⟩ := take_run (κ := some od :: κ) (ς := some v :: ς) S2 (by simp [hl]) l q
        have hl2 : (r.map some).length = (ods'.map some).length := by
          have h1 := (takeAll_len q).1
          have h4 := l.len
          simp only [List.length_map]
          simp only at h1
          omega
        exact ⟨F2, A3, S3.swap hl2, g3⟩
    · cases e
theorem put_run : ∀ {ds : List DV} {bk : Env} {vs : List V} {ρ : Env} {A : AS}, Stt G F H (bk ++ (κ ++ ρ)) (vs.map some ++ (ς ++ σ)) A → ς.length = κ.length → bk.length = vs.length → Lnk σ ds vs →
    ∃ A', Stt G F H (κ ++ putBack ds bk ρ) (ς ++ σ) A' ∧ ∀ a, A' a → A a
  | [], bk, vs, ρ, A, S, hl, hb, l => by
    simp only [Lnk] at l; subst l
    cases bk with
    | nil => exact ⟨A, S, fun _ z => z⟩
    | cons => simp at hb
  | d :: ds, [], vs, ρ, A, S, hl, hb, l => by
    cases vs with
    | nil => cases d <;> (simp only [Lnk] at l; obtain ⟨v, r, e, _⟩ := l; cases e)
    | cons => simp at hb
  | .own od :: ds, x :: bk, vs, ρ, A, S, hl, hb, l => by
    simp only [Lnk] at l
    obtain ⟨v, r, rfl, l⟩ := l
    obtain ⟨A1, S1, sub⟩ := Stt.dropTop S
    obtain ⟨A2, S2, sub2⟩ := put_run (bk := bk) (vs := r) S1 hl (by simpa using hb) l
    exact ⟨A2, S2, fun a z => sub a (sub2 a z)⟩
  | .plc i :: ds, x :: bk, vs, ρ, A, S, hl, hb, l => by
    simp only [Lnk] at l
    obtain ⟨v, r, rfl, lv, l⟩ := l
    have hb' : (r.map some).length = bk.length := by simpa using hb.symm
    simp only [putBack]
    split
    · rename_i e0
      cases x with
      | none =>
        have S1 := Stt.pop_n S
        have : ρ.set i none = ρ := by
          apply List.ext_getElem?
          intro j
          by_cases hj : i = j
          · subst hj
            rw [List.getElem?_set_self (List.getElem?_eq_some_iff.mp e0).1]
            exact e0.symm
          · rw [List.getElem?_set_ne hj]
        rw [this]
        exact put_run (bk := bk) (vs := r) S1 hl (by simpa using hb) l
      | some od =>
        obtain ⟨B, A1, h1, S1, c, hB⟩ := Stt.pop S
        have e1 : (bk ++ (κ ++ ρ))[bk.length + (κ.length + i)]? = some none := getKap (getKap e0)
        have e2 : (r.map some ++ (ς ++ σ))[bk.length + (κ.length + i)]? = some (some v) := by rw [getSig hb', getSig hl]; exact lv
        have h4 := Sl.put (ρ := bk ++ (κ ++ ρ)) S1.sl e1 e2 h1 c
        rw [setKap, setKap] at h4
        exact put_run (bk := bk) (vs := r) ⟨S1.le, h4, S.fr⟩ hl (by simpa using hb) l
    · obtain ⟨A1, S1, sub⟩ := Stt.dropTop S
      obtain ⟨A2, S2, sub2⟩ := put_run (bk := bk) (vs := r) S1 hl (by simpa using hb) l
      exact ⟨A2, S2, fun a z => sub a (sub2 a z)⟩
/-- all of them data: nothing is owned -/
def allV : List OD → Prop
  | [] => True
  | .v _ :: r => allV r
  | _ :: _ => False
theorem allV_none : ∀ {ods : List OD} {vs : St} {A : AS}, allV ods → Sl G F H (ods.map some) vs A → ∀ a, ¬ A a
  | [], vs, A, _, h => by simp only [List.map_nil, Sl] at h; exact h.2
  | .v d :: r, vs, A, ha, h => by
    simp only [List.map_cons, Sl, OT] at h
    obtain ⟨v, r', A1, A2, _, ⟨_, h1⟩, h2, c⟩ := h
    intro a z
    rcases (c.1 a).1 z with y | y
    · exact h1 a y
    · exact allV_none (ods := r) ha h2 a y
  | .l _ :: r, _, _, ha, _ => ha.elim
  | .k _ _ :: r, _, _, ha, _ => ha.elim
  | .o _ _ _ :: r, _, _, ha, _ => ha.elim
theorem take_allV : ∀ {as : List Opd} {ds : List DV} {ρ ρ1 : Env} {z : List OD × Env}, noPlc as = true → evAll as ρ = .ok ds ρ1 → ∀ ρ2, takeAll ds ρ2 = some z → allV z.1
  | [], ds, ρ, ρ1, z, _, e, ρ2, t => by
    simp only [evAll] at e; cases e
    simp only [takeAll] at t; cases t
    trivial
  | .plc i :: as, _, _, _, _, h, _, _, _ => by simp [noPlc] at h
  | .val p f :: as, ds, ρ, ρ1, z, h, e, ρ2, t => by
    simp only [evAll, Opd.ev] at e
    cases e1 : f ρ with
    | stuck => rw [e1] at e; cases e
    | exc => rw [e1] at e; cases e
    | ok od ρ3 =>
      rw [e1] at e
      simp only [Out.bind_ok] at e
      cases e2 : evAll as ρ3 with
      | stuck => rw [e2] at e; cases e
      | exc => rw [e2] at e; cases e
      | ok ds' ρ4 =>
        rw [e2] at e; cases e
        simp only [takeAll] at t
        cases q : takeAll ds' ρ2 with
        | none => rw [q] at t; cases t
        | some y =>
          rw [q] at t; cases t
          have := take_allV (as := as) (by simpa [noPlc] using h) e2 ρ2 q
          exact this
/-- what stands behind the call's arguments -/
theorem call_run {p : Bool} {f : FnM} {E : XK} {ds : List DV} {vs : List V} {Q : VK} {F0 H0 : Hp} {A0 : AS} (g0 : Go p F0 H0 A0 F H A)
    (S : Stt G F H (ds.map DV.slot ++ (κ ++ ρ)) (vs.map some ++ (ς ++ σ)) A) (hl : ς.length = κ.length) (l : Lnk σ ds vs) (hv : p = true → ∀ z, takeAll ds ρ = some z → allV z.1)
    (hE : ∀ cls d H, W cls d σ H → E cls d H)
    (h : Pst G W p (doCall f ds ρ) F0 H0 A0 κ ς σ fun od ρ' => ∀ F' H' v A', Go p F0 H0 A0 F' H' A' → Stt G F' H' (some od :: (κ ++ ρ')) (some v :: (ς ++ σ)) A' → Q v H') : spOf G f vs H Q E := by
  unfold doCall at h
  cases t : takeAll ds ρ with
  | none => rw [t] at h; exact h.elim
  | some z =>
    obtain ⟨ods, ρ2⟩ := z
    rw [t] at h
    simp only at h
    obtain ⟨F1, A1, S1, g1⟩ := take_run S hl l t
    have hlo : (vs.map some).length = (ods.map some).length := by
      have := (takeAll_len t).1
      simp only [List.length_map]
      rw [l.len]
      exact this.symm
    obtain ⟨B1, B2, s1, s2, c⟩ := S1.sl.app hlo
    refine ⟨F1, ods, B1, ⟨S1.le, s1, fun a z => S1.fr a (c.l z)⟩, ?_⟩
    -- from the arguments to the whole
    have step : ∀ {F' H' : Hp} {Y : AS}, Go false F1 H B1 F' H' Y → Le F' H' → (∀ a, Y a → F' a = none) → Sl G F' H' (κ ++ ρ2) (ς ++ σ) B2 ∧ (∀ a, Y a → ¬ B2 a) ∧ (∀ a, B2 a → F' a = none) ∧ Go p F0 H0 A0 F' H' (fun a => Y a ∨ B2 a) := by
      intro F' H' Y g le fr
      have kp : ∀ a, B2 a → ∃ o, H a = some o ∧ H' a = some o := fun a z => by
        obtain ⟨o, e⟩ := s2.there a z
        exact ⟨o, e, g.keep a o e fun y => c.2 a y.2 z⟩
      refine ⟨s2.mono g.le fun a z => ?_, fun a y z => ?_, fun a z => ?_, ?_⟩
      · obtain ⟨o, e1, e2⟩ := kp a z
        rw [e1, e2]
      · obtain ⟨o, e1, e2⟩ := kp a z
        rcases g.sub a y with b | b
        · exact c.2 a b z
        · rw [e1] at b; cases b
      · obtain ⟨o, e1, e2⟩ := kp a z
        cases q : F' a with
        | none => rfl
        | some o' =>
          rcases g.nf a o' q with b | b | b
          · rw [S1.fr a (c.r z)] at b; cases b
          · exact (c.2 a b z).elim
          · rw [e1] at b; cases b
      · refine ⟨g0.le.trans (g1.le.trans g.le), fun a o e n => ?_, fun a z => ?_, fun a o z => ?_⟩
        · have e1 : H a = some o := g0.keep a o e n
          refine g.keep a o e1 fun y => ?_
          cases hp : p with
          | true => exact allV_none (hv hp _ t) s1 a y.2
          | false =>
            have : A a := by
              rcases g1.sub a (c.l y.2) with b | b
              · exact b
              · rw [e1] at b; cases b
            rcases g0.sub a this with b | b
            · exact n ⟨hp, b⟩
            · rw [e] at b; cases b
        · exact g0.back (g1.back (z.elim (fun y => (g.sub a y).elim (fun b => .inl (c.l b)) .inr) fun b => .inl (c.r b)))
        · rcases g.nf a o z with b | b | b
          · rcases g1.nf a o b with b | b
            · exact g0.nf a o b
            · exact .inr (g0.back b)
          · exact .inr (g0.back (g1.back (.inl (c.l b))))
          · exact .inr (g0.back (.inr b))
    cases ef : f ods with
    | stuck => rw [ef] at h; exact h.elim
    | ok od bk =>
      rw [ef] at h
      intro F' H' v A' g S'
      obtain ⟨B, A3, h1, S3, c3, hB⟩ := S'.pop
      obtain ⟨q1, q2, q3, q4⟩ := step g S'.le S'.fr
      have hbl : bk.length = vs.length := by have := S3.sl.len; simpa using this.symm
      have S4 : Stt G F' H' (bk ++ (κ ++ ρ2)) (vs.map some ++ (ς ++ σ)) fun a => A3 a ∨ B2 a :=
        ⟨S'.le, S3.sl.join q1 (.mk' _ _ fun a y z => q2 a (c3.r y) z), fun a z => z.elim (fun y => S'.fr a (c3.r y)) (q3 a)⟩
      obtain ⟨A5, S5, sub⟩ := put_run (ds := ds) S4 hl hbl l
      obtain ⟨A6, S6, h6⟩ := S5.push h1 fun a b => ⟨hB a b, fun z => (sub a z).elim (c3.2 a b) (q2 a (c3.l b))⟩
      exact h F' H' v A6 (q4.less fun a z => ((h6 a).1 z).elim (fun b => .inl (c3.l b)) fun z => (sub a z).elim (fun y => .inl (c3.r y)) .inr) S6
    | exc x bk =>
      rw [ef] at h
      intro F' H' A' cls d g S' xr
      obtain ⟨q1, q2, q3, q4⟩ := step g S'.le S'.fr
      have hbl : bk.length = vs.length := by have := S'.sl.len; simpa using this.symm
      have S4 : Stt G F' H' (bk ++ (κ ++ ρ2)) (vs.map some ++ (ς ++ σ)) fun a => A' a ∨ B2 a :=
        ⟨S'.le, S'.sl.join q1 (.mk' _ _ q2), fun a z => z.elim (S'.fr a) (q3 a)⟩
      obtain ⟨A5, S5, sub⟩ := put_run (ds := ds) S4 hl hbl l
      exact hE cls d H' (h F' H' A5 cls d ((q4.imp fun z => by cases z).less sub) S5 xr)
end
section
variable {G : Gx} {W : WX} {X : Cx} {k : Nat} {fa C : Addr} {fd : FuncData} {ps : List Str} {f : FnM} {x m : Str} {p pos apos : Pos} {e o : Expr} {es : List Expr} {as : List Opd} {r : Opd}
/-- the operands, then the call -/
theorem calls_run {σ : St} {H : Hp} {Q : VK} {E : XK} (hE : ∀ cls d H, W cls d σ H → E cls d H) (q : TX G W (pAll as && noPlc as) (mCall f as) σ H Q) : tAll G W as σ H fun vs H1 => spOf G f vs H1 Q E := by
  obtain ⟨F, ρ, A, κ, ς, S, hl, q⟩ := q
  unfold mCall at q
  by_cases ho : okPl ρ as = true
  · rw [if_pos ho] at q
    refine tAll_run S hl (okPl_ok S hl ho) ?_
    cases e1 : evAll as ρ with
    | stuck => rw [e1] at q; exact q
    | exc x ρ' => rw [e1] at q; exact q
    | ok ds ρ' =>
      rw [e1] at q
      intro F1 H1 vs A1 g1 S1 l1
      exact call_run (p := pAll as && noPlc as) (g1.imp fun z => by simp only [Bool.and_eq_true] at z; exact z.1) S1 hl l1 (fun z y hy => take_allV (by simp only [Bool.and_eq_true] at z; exact z.2) e1 ρ' hy) hE q
  · rw [if_neg ho] at q; exact q.elim
theorem sx_call (Fn : FnOk X.prog X.w X.K X.mg X.base (L2.CX X.prog X.w) k fa fd ps (spOf G f)) (hr : Room k X.A) (hg : Gl X x) (hm : X.mg x = some (.ref fa)) (hk : PySem.W.keepIn X.K (.ref fa) = true) (hb : Binds X.K fd ps []) (tk : Takes X W)
    (ha : PA X (e :: es) (tAll G W as)) (hdb : (x == ("__debug__" : Str)) = false := by decide) (he : starEach (e :: es) X.env = (false, eval e X.env) :: starEach es X.env := by rfl) (hpl : (backTo pos (starEach es X.env)).any (·.1) = false := by rfl) :
    SX X G W (pAll as && noPlc as) (.Call (.Name x p) (e :: es) [] pos) (mCall f as) :=
  PE.of (pe_callS Fn hr hg hm hk hb (fun σ => passAt tk σ) ha hdb he hpl) fun σ H Q q => calls_run (fun _ _ _ z => z) q
/-- the receiver is an instance of the class c, and m is no attribute of its own -/
def isIns (c m : Str) (ρ : Env) (d : DV) : Bool :=
  match (match d with | .own od => some od | .plc i => ρ[i]?.join) with
  | some (.o c' fs _) => c' == c && !fs.contains m
  | some (.v (.ins c' fs _)) => c' == c && !fs.contains m
  | _ => false
def mMeth (c m : Str) (f : FnM) (r : Opd) (as : List Opd) : M OD := fun ρ => if okPl ρ (r :: as) then (r.ev ρ).bind fun d ρ1 => if isIns c m ρ1 d then (evAll as ρ1).bind fun ds => doCall f (d :: ds) else .stuck else .stuck
theorem no_lookup {fvs : List (Str × V)} {fs : List Str} (h : fvs.map (·.1) = fs) (hm : fs.contains m = false) : fvs.lookup m = none := by
  subst h
  induction fvs with
  | nil => rfl
  | cons y ys ih =>
    simp only [List.map_cons, List.contains_cons, Bool.or_eq_false_iff] at hm
    obtain ⟨a, b⟩ := y
    have : (m == a) = false := hm.1
    simp only [List.lookup, this]
    exact ih hm.2
theorem isIns_run {F H : Hp} {κ ρ : Env} {ς σ : St} {A : AS} {c : Str} {d : DV} {v : V} (S : Stt G F H (d.slot :: (κ ++ ρ)) (some v :: (ς ++ σ)) A) (hl : ς.length = κ.length) (hv : ∀ i, d = .plc i → σ[i]? = some (some v)) (hC : G.mg c = some (.ref C)) (h : isIns c m ρ d = true) :
    ∃ a dx fs, v = .ref a ∧ H a = some (.ins C dx fs) ∧ fs.lookup m = none := by
  have main : ∀ (od : OD) (B : AS), OT G F H od v B → (match (some od : Option OD) with | some (.o c' fs _) => c' == c && !fs.contains m | some (.v (.ins c' fs _)) => c' == c && !fs.contains m | _ => false) = true → ∃ a dx fs, v = .ref a ∧ H a = some (.ins C dx fs) ∧ fs.lookup m = none := by
    intro od B ho hh
    cases od with
    | o c' fs xs =>
      simp only [Bool.and_eq_true, beq_iff_eq, Bool.not_eq_true'] at hh
      simp only [OT] at ho
      obtain ⟨a, C', dx, fvs, A', rfl, hm', h2, hk, _⟩ := ho
      rw [hh.1, hC] at hm'
      cases hm'
      exact ⟨a, dx, fvs, rfl, h2, no_lookup hk hh.2⟩
    | v dd =>
      cases dd with
      | ins c' fs xs =>
        simp only [Bool.and_eq_true, beq_iff_eq, Bool.not_eq_true'] at hh
        simp only [OT, Rep] at ho
        obtain ⟨⟨a, C', dx, fvs, rfl, hm', h2, hk, _⟩, _⟩ := ho
        rw [hh.1, hC] at hm'
        cases hm'
        exact ⟨a, dx, fvs, rfl, S.le _ _ h2, no_lookup hk hh.2⟩
      | _ => simp at hh
    | _ => simp at hh
  unfold isIns at h
  cases d with
  | own od =>
    obtain ⟨B, A', h1, _⟩ := Stt.pop S
    exact main od B h1 h
  | plc i =>
    simp only at h
    cases q0 : ρ[i]? with
    | none => rw [q0] at h; simp at h
    | some y =>
      cases y with
      | none => rw [q0] at h; simp at h
      | some od =>
        rw [q0] at h
        obtain ⟨w, A1, A2, h1, h2, _⟩ := (Stt.pop_n S).sl.at (getKap (κ := κ) q0)
        rw [getSig hl, hv i rfl] at h1
        cases h1
        exact main od A1 h2 h
/-- the receiver, the operands, the call -/
theorem meths_run {σ : St} {H : Hp} {Q : VK} {E : XK} {c : Str} (hC : G.mg c = some (.ref C)) (hE : ∀ cls d H, W cls d σ H → E cls d H) (q : TX G W (pAll (r :: as) && noPlc (r :: as)) (mMeth c m f r as) σ H Q) :
    tOpd G W r σ H fun x H1 => ∃ a dx fs, x = .ref a ∧ H1 a = some (.ins C dx fs) ∧ fs.lookup m = none ∧ tAll G W as σ H1 fun vs H2 => spOf G f (x :: vs) H2 Q E := by
  obtain ⟨F, ρ, A, κ, ς, S, hl, q⟩ := q
  unfold mMeth at q
  by_cases ho : okPl ρ (r :: as) = true
  · rw [if_pos ho] at q
    have okk := okPl_ok S hl ho
    refine tOpd_run S hl (okk r List.mem_cons_self) ?_
    cases e1 : r.ev ρ with
    | stuck => rw [e1] at q; exact q
    | exc x ρ' => rw [e1] at q; exact q
    | ok d ρ1 =>
      rw [e1] at q
      simp only [Out.bind_ok] at q
      intro F1 H1 v1 A1 g1 S1 l1
      by_cases hi : isIns c m ρ1 d = true
      · rw [if_pos hi] at q
        obtain ⟨a, dx, fs, h1, h2, h3⟩ := isIns_run S1 hl l1 hC hi
        refine ⟨a, dx, fs, h1, h2, h3, ?_⟩
        refine tAll_run (κ := d.slot :: κ) (ς := some v1 :: ς) (ρ := ρ1) S1 (by simp [hl]) (fun b hb => okk b (List.mem_cons_of_mem _ hb)) ?_
        cases e2 : evAll as ρ1 with
        | stuck => rw [e2] at q; exact q
        | exc x ρ2 =>
          rw [e2] at q
          intro F' H' A' cls dd g S' xr
          obtain ⟨A'', S'', sub⟩ := Stt.dropTop (show Stt G F' H' (d.slot :: (κ ++ ρ2)) (some v1 :: (ς ++ σ)) A' from S')
          exact q F' H' A'' cls dd (((g1.trans g).imp (fun z => by cases z)).less sub) S'' xr
        | ok ds ρ2 =>
          rw [e2] at q
          intro F2 H2 vs A2 g2 S2 l2
          have hl2 : (vs.map some).length = (ds.map DV.slot).length := by simp [l2.len]
          have S3 : Stt G F2 H2 ((d :: ds).map DV.slot ++ (κ ++ ρ2)) ((v1 :: vs).map some ++ (ς ++ σ)) A2 := S2.swap hl2
          refine call_run (p := pAll (r :: as) && noPlc (r :: as)) (ds := d :: ds) (vs := v1 :: vs) ((g1.trans g2).imp fun z => ?_) S3 hl ?_ (fun z zz => ?_) hE q
          · simp only [Bool.and_eq_true] at z
            simp only [pAll, Bool.and_eq_true] at z
            simp [z.1.1, z.1.2]
          · cases d with
            | own od => exact ⟨_, _, rfl, l2⟩
            | plc i => exact ⟨_, _, rfl, l1 i rfl, l2⟩
          · simp only [Bool.and_eq_true] at z
            refine take_allV (as := r :: as) (ρ := ρ) (ρ1 := ρ2) z.2 ?_ ρ2 
            simp only [evAll, e1, e2, Out.bind_ok]
      · rw [if_neg hi] at q; exact q.elim
  · rw [if_neg ho] at q; exact q.elim
theorem sx_meth {pl : Sem Bool} {c : Str} (he : SO X G W o r) (hC : G.mg c = some (.ref C)) (cl : Cls X.K C) (hm : Meth X.K C m fa) (Fn : FnOk X.prog X.w X.K X.mg X.base (L2.CX X.prog X.w) k fa fd ps (spOf G f)) (hr : Room k X.A) (hb : Binds X.K fd ps []) (tk : Takes X W) (ha : PA X (e :: es) (tAll G W as))
    (hst : starEach (e :: es) X.env = (false, eval e X.env) :: starEach es X.env := by rfl) (hpl : (backTo pos (starEach es X.env)).any (·.1) = false := by rfl)
    (ht : eval (.Call (.Attribute o m apos) (e :: es) [] pos) X.env = (eval o X.env >>= fun ov => standAt apos.atName >>= fun _ => holding [ov] (getMethod ov m pl) >>= fun z => callWith pos z.1 z.2 (backTo pos (starEach (e :: es) X.env)) (backToKw pos (keywordEach [] X.env))) := by rfl) :
    SX X G W (pAll (r :: as) && noPlc (r :: as)) (.Call (.Attribute o m apos) (e :: es) [] pos) (mMeth c m f r as) := by
  constructor
  intro pins s σ H Q I q
  refine PySem.W.methodCall_KW (pl := pl) (thn (he.run pins s σ H _ I (meths_run hC (fun _ _ _ z => z) q)) ?_) ht
  rintro u s1 ⟨v, H1, I1, rv, a, dx, fs, rfl, ea, l, q1⟩
  obtain rfl : u = Value.ref a := rv
  refine getmeth_ok I1 ea cl hm l (PySem.W.callWith_K (first := [.ref a]) (h₀ := X.base) I.ok.mod.kin hm.kp (thn (ha.run pos pins s1 σ H1 _ I1 q1) ?_) hst hpl)
  rintro us s2 ⟨vs, H2, I2, r2, q2⟩
  exact ⟨I2.kIn, run_fnS (us := .ref a :: us) (vs := .ref a :: vs) Fn hr hb (passAt tk σ) I2 (.cons rfl r2) q2⟩
theorem sx_meth0 {pl : Sem Bool} {c : Str} (he : SO X G W o r) (hC : G.mg c = some (.ref C)) (cl : Cls X.K C) (hm : Meth X.K C m fa) (Fn : FnOk X.prog X.w X.K X.mg X.base (L2.CX X.prog X.w) k fa fd ps (spOf G f)) (hr : Room k X.A) (hb : Binds X.K fd ps []) (tk : Takes X W)
    (ht : eval (.Call (.Attribute o m apos) [] [] pos) X.env = (eval o X.env >>= fun ov => standAt apos.atName >>= fun _ => holding [ov] (getMethod ov m pl) >>= fun z => callWith pos z.1 z.2 (backTo pos (starEach [] X.env)) (backToKw pos (keywordEach [] X.env))) := by rfl) :
    SX X G W (pAll [r] && noPlc [r]) (.Call (.Attribute o m apos) [] [] pos) (mMeth c m f r []) := by
  constructor
  intro pins s σ H Q I q
  refine PySem.W.methodCall_KW (pl := pl) (thn (he.run pins s σ H _ I (meths_run hC (fun _ _ _ z => z) q)) ?_) ht
  rintro u s1 ⟨v, H1, I1, rv, a, dx, fs, rfl, ea, l, q1⟩
  obtain rfl : u = Value.ref a := rv
  exact getmeth_ok I1 ea cl hm l (PySem.W.callWith_K0 (first := [.ref a]) I1.kIn hm.kp (run_fnS (us := [.ref a]) (vs := [.ref a]) Fn hr hb (passAt tk σ) I1 (.cons rfl .nil) q1))
end
end Vs
/-! VsF: the operations. -/
namespace Vs
open PySem L2
/-! ### displays -/
section
variable {G : Gx} {W : WX} {F F' F1 F2 F3 H H' H1 H2 H3 : Hp} {A A' A1 A2 A3 : AS} {ρ ρ' κ : Env} {σ ς : St} {X : Cx} {e : Expr} {es : List Expr} {as : List Opd} {pos : Pos}
theorem Stt.ots : ∀ {ods : List OD} {vs : List V} {A : AS}, Stt G F H (ods.map some ++ ρ) (vs.map some ++ σ) A → vs.length = ods.length → ∃ B A', OTs G F H ods vs B ∧ Stt G F H ρ σ A' ∧ Cut A B A' ∧ ∀ a, B a → F a = none
  | [], vs, A, S, hl => by
    cases vs with
    | nil => exact ⟨fun _ => False, A, by simp [OTs], S, .nil_l fun _ z => z, fun _ z => z.elim⟩
    | cons => simp at hl
  | od :: ods, vs, A, S, hl => by
    cases vs with
    | nil => simp at hl
    | cons v vs =>
      obtain ⟨B, A1, h1, S1, c, hB⟩ := Stt.pop S
      obtain ⟨B2, A2, h2, S2, c2, hB2⟩ := Stt.ots (ods := ods) (vs := vs) S1 (by simpa using hl)
      obtain ⟨Y, c3, c4⟩ := c.assoc' c2
      refine ⟨Y, A2, by simp only [OTs]; exact ⟨_, _, _, _, rfl, h1, h2, c4⟩, S2, c3, fun a z => ((c4.1 a).1 z).elim (hB a) (hB2 a)⟩
theorem ots_v : ∀ {ds : List D} {vs : List V}, Reps G F ds vs → OTs G F H (ds.map .v) vs fun _ => False
  | [], vs, h => by simp only [Reps] at h; subst h; simp [OTs]
  | d :: ds, vs, h => by
    simp only [Reps] at h
    obtain ⟨v, r, rfl, h1, h2⟩ := h
    simp only [List.map_cons, OTs, OT]
    exact ⟨v, r, fun _ => False, fun _ => False, rfl, ⟨h1, fun _ z => z⟩, ots_v h2, .nil_l fun _ z => z⟩
theorem ot_lv {ds : List D} {vs : List V} {p : Addr} (h : Reps G F ds vs) (hp : H p = some (.lst vs)) : OT G F H (.l (ds.map .v)) (.ref p) fun b => b = p := by
  simp only [OT]
  exact ⟨p, vs, fun _ => False, rfl, hp, ots_v h, .nil_r fun _ z => z⟩
/-- a new list of owned things -/
theorem Stt.newL {ods : List OD} {vs : List V} {p : Addr} (S : Stt G F H (ods.map some ++ ρ) (vs.map some ++ σ) A) (hl : vs.length = ods.length) (hp : H p = none) :
    ∃ A', Stt G F (upd H p (.lst vs)) (some (.l ods) :: ρ) (some (.ref p) :: σ) A' ∧ Go true F H A F (upd H p (.lst vs)) A' := by
  obtain ⟨B, A1, h1, S1, c, hB⟩ := S.ots hl
  have n : New F H F (upd H p (.lst vs)) := .own S.le hp
  have hpB : ∀ a, A a → a ≠ p := fun a z e => by
    subst e
    have : ∃ o, H a = some o := ((c.1 a).1 z).elim (fun b => h1.there a b) fun b => S1.sl.there a b
    obtain ⟨o, q⟩ := this
    rw [hp] at q; cases q
  have hkeep : ∀ a, A a → upd H p (.lst vs) a = H a := fun a z => upd_ne (hpB a z)
  have ho : OT G F (upd H p (.lst vs)) (.l ods) (.ref p) fun a => a = p ∨ B a := by
    simp only [OT]
    exact ⟨p, vs, B, rfl, upd_same, h1.mono (.refl _) fun a z => hkeep a (c.l z), fun a => Iff.rfl, fun a z b => hpB a (c.l b) z⟩
  have hF : F p = none := by
    cases q : F p with
    | none => rfl
    | some o => rw [S.le p o q] at hp; cases hp
  obtain ⟨A2, S2, h2⟩ := (S1.new n).push ho fun a z => z.elim (fun e => ⟨e ▸ hF, fun w => hpB a (c.r w) e⟩) fun b => ⟨hB a b, c.2 a b⟩
  refine ⟨A2, S2, n.lf, fun a o q _ => n.lh a o q, fun a z => ?_, fun _ _ q => .inl q⟩
  rcases (h2 a).1 z with (rfl | b) | b
  · exact .inr hp
  · exact .inl (c.l b)
  · exact .inl (c.r b)
/-- all on top of the stack become data -/
theorem Stt.frzs : ∀ {ods : List OD} {vs : List V} {F : Hp} {A : AS}, Stt G F H (ods.map some ++ ρ) (vs.map some ++ σ) A → vs.length = ods.length → ∃ F' A', Reps G F' (OD.fzs ods) vs ∧ Stt G F' H ρ σ A' ∧ Go true F H A F' H A'
  | [], vs, F, A, S, hl => by
    cases vs with
    | nil => exact ⟨F, A, by simp [OD.fzs, Reps], S, .refl⟩
    | cons => simp at hl
  | od :: ods, vs, F, A, S, hl => by
    cases vs with
    | nil => simp at hl
    | cons v vs =>
      obtain ⟨F1, A1, h1, S1, g1, _⟩ := Stt.frz (p := true) S
      obtain ⟨F2, A2, h2, S2, g2⟩ := Stt.frzs (ods := ods) (vs := vs) S1 (by simpa using hl)
      exact ⟨F2, A2, by simp only [OD.fzs]; exact .cons (h1.mono g2.le) h2, S2, g1.trans g2⟩
end
/-- operands taken as they are, then k -/
def mTake (as : List Opd) (k : List OD → Option OD) : M OD := fun ρ => if okPl ρ as then (evAll as ρ).bind fun ds ρ' => match takeAll ds ρ' with
  | some (ods, ρ2) => match k ods with
    | some od => .ok od ρ2
    | none => .stuck
  | none => .stuck else .stuck
def kTup (ods : List OD) : Option OD := if ods.length ≤ sizeLine then some (.v (.tup (OD.fzs ods))) else none
def kLst (ods : List OD) : Option OD := if ods.length ≤ sizeLine then some (.l ((OD.fzs ods).map .v)) else none
def kLstO (ods : List OD) : Option OD := if ods.length ≤ sizeLine then some (.l ods) else none
def mTup (as : List Opd) : M OD := mTake as kTup
def mLst (as : List Opd) : M OD := mTake as kLst
def mLstO (as : List Opd) : M OD := mTake as kLstO
section
variable {G : Gx} {W : WX} {F F' F1 F2 F3 H H' H1 H2 H3 : Hp} {A A' A1 A2 A3 : AS} {ρ ρ' κ : Env} {σ ς : St} {X : Cx} {e : Expr} {es : List Expr} {as : List Opd} {pos : Pos}
theorem take_any {k : List OD → Option OD} {Q : VK} {r : List V → Hp → VK → Prop} (h : TX G W (pAll as) (mTake as k) σ H Q)
    (hr : ∀ F H ρ κ ς A ods vs od, Stt G F H (ods.map some ++ (κ ++ ρ)) (vs.map some ++ (ς ++ σ)) A → vs.length = ods.length → k ods = some od →
      (∀ F' H' v A', Go true F H A F' H' A' → Stt G F' H' (some od :: (κ ++ ρ)) (some v :: (ς ++ σ)) A' → Q v H') → r vs H Q) : tAll G W as σ H fun vs H1 => r vs H1 Q := by
  obtain ⟨F, ρ, A, κ, ς, S, hl, q⟩ := h
  unfold mTake at q
  by_cases ho : okPl ρ as = true
  · rw [if_pos ho] at q
    refine tAll_run S hl (okPl_ok S hl ho) ?_
    cases e1 : evAll as ρ with
    | stuck => rw [e1] at q; exact q
    | exc x ρ' => rw [e1] at q; exact q
    | ok ds ρ' =>
      rw [e1] at q
      simp only [Out.bind_ok] at q
      intro F1 H1 vs A1 g1 S1 l1
      cases e2 : takeAll ds ρ' with
      | none => rw [e2] at q; exact q.elim
      | some z =>
        obtain ⟨ods, ρ2⟩ := z
        rw [e2] at q
        simp only at q
        cases e3 : k ods with
        | none => rw [e3] at q; exact q.elim
        | some od =>
          rw [e3] at q
          obtain ⟨F2, A2, S2, g2⟩ := take_run S1 hl l1 e2
          have hlv : vs.length = ods.length := by have := (takeAll_len e2).1; rw [l1.len]; exact this.symm
          exact hr F2 H1 ρ2 κ ς A2 ods vs od S2 hlv e3 fun F' H' v A' g' S' => q F' H' v A' (((g1.trans g2).trans g').imp fun z => by simp [z]) S'
  · rw [if_neg ho] at q; exact q.elim
theorem sx_tup {x1} (ha : PA X es (tAll G W as)) : SX X G W (pAll as) (.Tuple es x1 pos) (mTup as) := PE.of (pe_tup ha) fun σ H Q q => by
  refine take_any (r := fun vs H1 Q => vs.length ≤ sizeLine ∧ ∀ p, H1 p = none → Q (.ref p) (upd H1 p (.tup vs))) q fun F H ρ κ ς A ods vs od S hl ek h => ?_
  unfold kTup at ek
  split at ek
  · rename_i hz
    cases ek
    refine ⟨by omega, fun p hp => ?_⟩
    obtain ⟨F1, A1, hr, S1, g1⟩ := S.frzs hl
    have n : New F1 H (upd F1 p (.tup vs)) (upd H p (.tup vs)) := .frz S1.le hp
    refine h _ _ _ A1 (g1.trans n.go) ((S1.new n).push_v ?_)
    simp only [Rep]
    exact ⟨p, vs, rfl, .of upd_same, hr.mono n.lf⟩
  · cases ek
theorem sx_lst (ha : PA X es (tAll G W as)) : SX X G W (pAll as) (.List es pos) (mLst as) := PE.of (pe_lst ha) fun σ H Q q => by
  refine take_any (r := fun vs H1 Q => vs.length ≤ sizeLine ∧ ∀ p, H1 p = none → Q (.ref p) (upd H1 p (.lst vs))) q fun F H ρ κ ς A ods vs od S hl ek h => ?_
  unfold kLst at ek
  split at ek
  · rename_i hz
    cases ek
    refine ⟨by omega, fun p hp => ?_⟩
    obtain ⟨F1, A1, hr, S1, g1⟩ := S.frzs hl
    have n : New F1 H F1 (upd H p (.lst vs)) := .own S1.le hp
    have hF : F1 p = none := by
      cases q : F1 p with
      | none => rfl
      | some o => rw [S1.le p o q] at hp; cases hp
    obtain ⟨A2, S2, h2⟩ := (S1.new n).push (ot_lv hr upd_same) fun a z => by
      subst z
      refine ⟨hF, fun w => ?_⟩
      obtain ⟨o, q⟩ := S1.sl.there a w
      rw [hp] at q; cases q
    have gn : Go true F1 H A1 F1 (upd H p (.lst vs)) A2 := ⟨n.lf, fun a o q _ => n.lh a o q, fun a z => ((h2 a).1 z).elim (fun e => .inr (e ▸ hp)) .inl, fun _ _ q => .inl q⟩
    exact h _ _ _ A2 (g1.trans gn) S2
  · cases ek
theorem sx_lstO (ha : PA X es (tAll G W as)) : SX X G W (pAll as) (.List es pos) (mLstO as) := PE.of (pe_lst ha) fun σ H Q q => by
  refine take_any (r := fun vs H1 Q => vs.length ≤ sizeLine ∧ ∀ p, H1 p = none → Q (.ref p) (upd H1 p (.lst vs))) q fun F H ρ κ ς A ods vs od S hl ek h => ?_
  unfold kLstO at ek
  split at ek
  · rename_i hz
    cases ek
    refine ⟨by omega, fun p hp => ?_⟩
    obtain ⟨A2, S2, g2⟩ := S.newL hl hp
    exact h _ _ _ A2 g2 S2
  · cases ek
end
/-! ### what an operation on values does -/
/-- a value without parts -/
def RV1 (r : V → Hp → VK → Prop) : List V → Hp → VK → Prop
  | [x], H, Q => r x H Q
  | _, _, _ => False
def RV2 (r : V → V → Hp → VK → Prop) : List V → Hp → VK → Prop
  | [x, y], H, Q => r x y H Q
  | _, _, _ => False
section
variable {G : Gx} {W : WX} {F F' H H' : Hp} {X : Cx} {e a b : Expr} {es : List Expr} {as : List Opd} {pos p q : Pos} {oa ob : Opd}
/-- a result that is data: the readings of the operands are enough -/
theorem rn_v {r : List V → Hp → VK → Prop} {op : List D → Option D} (h : ∀ F H xs vs z Q, Le F H → RepBs G F H xs vs → op xs = some z → (∀ F' H' u, New F H F' H' → Rep G F' z u → Q u H') → r vs H Q) :
    RN G r (fun xs => (op xs).map .v) := fun F H xs vs z Q le hr ez k => by
  dsimp only at ez
  cases e : op xs with
  | none => rw [e] at ez; cases ez
  | some d =>
    rw [e] at ez
    cases ez
    exact h F H xs vs d Q le hr e fun F' H' u n hu => k F' H' u (fun _ => False) n (by simp only [OT]; exact ⟨hu, fun _ z => z⟩) fun _ z => z.elim
/-- .. where nothing new is made -/
theorem rn_s {r : List V → Hp → VK → Prop} {op : List D → Option D} (h : ∀ F H xs vs z Q, Le F H → RepBs G F H xs vs → op xs = some z → (∀ u, Rep G F z u → Q u H) → r vs H Q) :
    RN G r (fun xs => (op xs).map .v) := rn_v fun F H xs vs z Q le hr ez k => h F H xs vs z Q le hr ez fun u hu => k F H u (.refl le) hu
/-- .. a new list -/
theorem rn_l {r : List V → Hp → VK → Prop} {op : List D → Option (List D)} (h : ∀ F H xs vs z Q, Le F H → RepBs G F H xs vs → op xs = some z → (∀ p us, H p = none → Reps G F z us → Q (.ref p) (upd H p (.lst us))) → r vs H Q) :
    RN G r (fun xs => (op xs).map fun ds => .l (ds.map .v)) := fun F H xs vs z Q le hr ez k => by
  dsimp only at ez
  cases e : op xs with
  | none => rw [e] at ez; cases ez
  | some d =>
    rw [e] at ez
    cases ez
    refine h F H xs vs d Q le hr e fun p us hp hu => k F (upd H p (.lst us)) (.ref p) (fun b => b = p) (.own le hp) (ot_lv hu upd_same) fun a z => ?_
    subst z
    refine ⟨hp, ?_⟩
    cases q : F a with
    | none => rfl
    | some o => rw [le a o q] at hp; cases hp
theorem RN.or {r r' : List V → Hp → VK → Prop} {op op' : List D → Option OD} (h : RN G r op) (h' : RN G r' op') : RN G (fun vs H Q => r vs H Q ∨ r' vs H Q) (fun xs => (op xs).or (op' xs)) := fun F H xs vs z Q le hr ez k => by
  dsimp only at ez
  cases e : op xs with
  | some y =>
    rw [e] at ez
    simp only [Option.some_or] at ez
    cases ez
    exact .inl (h F H xs vs _ Q le hr e k)
  | none =>
    rw [e] at ez
    simp only [Option.none_or] at ez
    exact .inr (h' F H xs vs z Q le hr ez k)
theorem sx_bin {op : Operator} {r : R2} {f : List D → Option OD} (ho : OpR X (binaryOp op) r) (R : RN G (RV2 r) f) (ha : SO X G W a oa) (hb : SO X G W b ob) : SX X G W (pAll [oa, ob]) (.BinOp a op b pos) (mApp f [oa, ob]) :=
  sx_app (pe_op ho ha hb) R fun σ H Q q => q
theorem sx_cmp {op : CmpOp} {r : R2} {f : List D → Option OD} (ho : OpR X (compareOp op) r) (R : RN G (RV2 r) f) (hm : behindInMarks op b = false) (ha : SO X G W a oa) (hb : SO X G W b ob) : SX X G W (pAll [oa, ob]) (.Compare a [op] [b] pos) (mApp f [oa, ob]) :=
  sx_app (pe_cmpR ho ha hb hm) R fun σ H Q q => q
theorem sx_un {op : UnaryOp} {r : V → Hp → VK → Prop} {f : List D → Option OD} (ho : UnR X (unaryOp op) r) (R : RN G (RV1 r) f) (ha : SO X G W a oa) : SX X G W (pAll [oa]) (.UnaryOp op a pos) (mApp f [oa]) :=
  sx_app (pe_un ho ha) R fun σ H Q q => q
theorem sx_ix {r : R2} {f : List D → Option OD} (hr : IxR X r) (R : RN G (RV2 r) f) (hs : PlainIx b) (ha : SO X G W a oa) (hb : SO X G W b ob) : SX X G W (pAll [oa, ob]) (.Subscript a b pos) (mApp f [oa, ob]) :=
  sx_app (pe_ix hr ha hb hs) R fun σ H Q q => q
theorem sx_callB {x : Str} {id : String} {r : List V → Hp → VK → Prop} {f : List D → Option OD} (hc : CallR X (.builtin id) r) (R : RN G r f) (hg : Gl X x) (hm : X.mg x = none) (hv : bootBuiltins x = some (.builtin id)) (ha : PA X (e :: es) (tAll G W as)) (hn : x ≠ "__name__" := by decide) (hdb : (x == ("__debug__" : Str)) = false := by decide)
    (he : starEach (e :: es) X.env = (false, eval e X.env) :: starEach es X.env := by rfl) (hpl : (backTo pos (starEach es X.env)).any (·.1) = false := by rfl) : SX X G W (pAll as) (.Call (.Name x p) (e :: es) [] pos) (mApp f as) :=
  sx_app (pe_callB hc hg hm hv ha hn hdb he hpl) R fun σ H Q q => q
theorem sx_callT {x : Str} {T : String} {r : List V → Hp → VK → Prop} {f : List D → Option OD} (hc : CallR X (.type T) r) (R : RN G r f) (hg : Gl X x) (hm : X.mg x = none) (hv : bootBuiltins x = some (.type T)) (ha : PA X (e :: es) (tAll G W as)) (hn : x ≠ "__name__" := by decide) (hdb : (x == ("__debug__" : Str)) = false := by decide)
    (he : starEach (e :: es) X.env = (false, eval e X.env) :: starEach es X.env := by rfl) (hpl : (backTo pos (starEach es X.env)).any (·.1) = false := by rfl) : SX X G W (pAll as) (.Call (.Name x p) (e :: es) [] pos) (mApp f as) :=
  sx_app (pe_callTy hc hg hm hv ha hn hdb he hpl) R fun σ H Q q => q
theorem pa_nl : PA X [] (tAll G W []) := pa_nil
theorem pa_cs (ha : SO X G W e oa) (hr : PA X es (tAll G W as)) (hs : starEach (e :: es) X.env = (false, eval e X.env) :: starEach es X.env := by rfl) : PA X (e :: es) (tAll G W (oa :: as)) := pa_cons ha hr hs
end
/-! ### ints -/
def dI (g : Int → Int → Int) : List D → Option D
  | [.int i, .int j] => some (.int (g i j))
  | _ => none
def dIB (g : Int → Int → Bool) : List D → Option D
  | [.int i, .int j] => some (.bl (g i j))
  | _ => none
def dIc (C : Int → Int → Prop) [∀ i j, Decidable (C i j)] (g : Int → Int → Int) : List D → Option D
  | [.int i, .int j] => if C i j then some (.int (g i j)) else none
  | _ => none
section
variable {G : Gx}
theorem repB_int {F H : Hp} {i : Int} {v : V} (h : RepB G F H (.int i) v) : v = .int i := by simp only [RepB, Rep] at h; exact h
theorem repB_str {F H : Hp} {i : Str} {v : V} (h : RepB G F H (.str i) v) : v = .str i := by simp only [RepB, Rep] at h; exact h
theorem repB_bl {F H : Hp} {i : Bool} {v : V} (h : RepB G F H (.bl i) v) : v = .bl i := by simp only [RepB, Rep] at h; exact h
theorem repB_non {F H : Hp} {v : V} (h : RepB G F H .non v) : v = .non := by simp only [RepB, Rep] at h; exact h
theorem rn_I {g : Int → Int → Int} : RN G (RV2 (rI0 fun i j => .int (g i j))) (fun xs => (dI g xs).map .v) := rn_s fun F H xs vs z Q le hr ez k => by
  unfold dI at ez
  split at ez
  · rename_i i j
    cases ez
    obtain ⟨v, w, rfl, h1, h2⟩ := hr.two
    exact ⟨i, j, repB_int h1, repB_int h2, k _ (by simp only [Rep])⟩
  · cases ez
theorem rn_IB {g : Int → Int → Bool} : RN G (RV2 (rI0 fun i j => .bl (g i j))) (fun xs => (dIB g xs).map .v) := rn_s fun F H xs vs z Q le hr ez k => by
  unfold dIB at ez
  split at ez
  · rename_i i j
    cases ez
    obtain ⟨v, w, rfl, h1, h2⟩ := hr.two
    exact ⟨i, j, repB_int h1, repB_int h2, k _ (by simp only [Rep])⟩
  · cases ez
theorem rn_Ic {C : Int → Int → Prop} [∀ i j, Decidable (C i j)] {g : Int → Int → Int} : RN G (RV2 (rI C fun i j => .int (g i j))) (fun xs => (dIc C g xs).map .v) := rn_s fun F H xs vs z Q le hr ez k => by
  unfold dIc at ez
  split at ez
  · rename_i i j
    split at ez
    · rename_i hc
      cases ez
      obtain ⟨v, w, rfl, h1, h2⟩ := hr.two
      exact ⟨i, j, repB_int h1, repB_int h2, hc, k _ (by simp only [Rep])⟩
    · cases ez
  · cases ez
end
instance (i j : Int) : Decidable (CMul i j) := by unfold CMul; infer_instance
instance (i j : Int) : Decidable (CDivN i j) := by unfold CDivN; infer_instance
instance (i j : Int) : Decidable (CPow i j) := by unfold CPow; infer_instance
/-! ### + of anything -/
def dAddS : List D → Option D
  | [.str x, .str y] => if x.length + y.length ≤ sizeLine then some (.str (x ++ y)) else none
  | _ => none
def dAddT : List D → Option D
  | [.tup xs, .tup ys] => if xs.length + ys.length ≤ sizeLine ∧ xs ≠ [] then some (.tup (xs ++ ys)) else none
  | _ => none
def dAddL : List D → Option (List D)
  | [.lst xs, .lst ys] => if xs.length + ys.length ≤ sizeLine then some (xs ++ ys) else none
  | _ => none
def rAddS : R2 := fun x y H Q => ∃ i j, x = .str i ∧ y = .str j ∧ i.length + j.length ≤ sizeLine ∧ Q (.str (i ++ j)) H
def opAdd (xs : List D) : Option OD := ((dI (· + ·) xs).map .v).or (((dAddS xs).map .v).or (((dAddL xs).map fun ds => .l (ds.map .v)).or ((dAddT xs).map .v)))
def rAddA (K : PySem.W.Frag) : R2 := fun x y H Q => rI0 (fun i j => .int (i + j)) x y H Q ∨ (rAddS x y H Q ∨ (rCat x y H Q ∨ rCatT K x y H Q))
section
variable {G : Gx} {X : Cx}
theorem Reps.nil_iff {F : Hp} {ds : List D} {vs : List V} (h : Reps G F ds vs) : ds = [] ↔ vs = [] := by
  have := h.len
  cases ds <;> cases vs <;> simp_all
theorem op_addA : OpR X (binaryOp .Add) (rAddA X.K) := op_add.or (op_add_str.or (op_cat.or op_catT))
theorem rn_addA (hG : G.K = X.K) : RN G (RV2 (rAddA X.K)) opAdd := by
  have h1 : RN G (RV2 rAddS) (fun xs => (dAddS xs).map .v) := rn_s fun F H xs vs z Q le hr ez k => by
    unfold dAddS at ez
    split at ez
    · rename_i x y
      split at ez
      · rename_i hc
        cases ez
        obtain ⟨v, w, rfl, h1, h2⟩ := hr.two
        exact ⟨x, y, repB_str h1, repB_str h2, hc, k _ (by simp only [Rep])⟩
      · cases ez
    · cases ez
  have h2 : RN G (RV2 rCat) (fun xs => (dAddL xs).map fun ds => .l (ds.map .v)) := rn_l fun F H xs vs z Q le hr ez k => by
    unfold dAddL at ez
    split at ez
    · rename_i x y
      split at ez
      · rename_i hc
        cases ez
        obtain ⟨v, w, rfl, h1, h2⟩ := hr.two
        simp only [RepB] at h1 h2
        obtain ⟨a, us, rfl, ha, ra⟩ := h1
        obtain ⟨b, ws, rfl, hb, rb⟩ := h2
        exact ⟨a, b, us, ws, rfl, rfl, ha, hb, by rw [ra.len, rb.len]; exact hc, fun p hp => k p _ hp (ra.append rb)⟩
      · cases ez
    · cases ez
  have h3 : RN G (RV2 (rCatT X.K)) (fun xs => (dAddT xs).map .v) := rn_v fun F H xs vs z Q le hr ez k => by
    unfold dAddT at ez
    split at ez
    · rename_i x y
      split at ez
      · rename_i hc
        cases ez
        obtain ⟨v, w, rfl, h1, h2⟩ := hr.two
        simp only [RepB, Rep] at h1 h2
        obtain ⟨a, us, rfl, ha, ra⟩ := h1
        obtain ⟨b, ws, rfl, hb, rb⟩ := h2
        rw [hG] at ha hb
        refine ⟨a, b, us, ws, rfl, rfl, le.sqt ha, le.sqt hb, fun z => hc.2 (ra.nil_iff.2 z), by rw [ra.len, rb.len]; exact hc.1, fun z => ?_, fun z p hp => ?_⟩
        · have : y = [] := rb.nil_iff.2 z
          subst this
          refine k F H (.ref a) (.refl le) ?_
          simp only [Rep, List.append_nil]
          exact ⟨a, us, rfl, by rw [hG]; exact ha, ra⟩
        · refine k (upd F p (.tup (us ++ ws))) (upd H p (.tup (us ++ ws))) (.ref p) (.frz le hp) ?_
          simp only [Rep]
          exact ⟨p, _, rfl, .of upd_same, (ra.append rb).mono (New.frz le hp).lf⟩
      · cases ez
    · cases ez
  intro F H xs vs z Q le hr ez k
  have := (rn_I (G := G) (g := (· + ·))).or (h1.or (h2.or h3)) F H xs vs z Q le hr ez k
  match vs, this with
  | [x, y], t => exact t
  | [], t => rcases t with t | t | t | t <;> exact t.elim
  | [_], t => rcases t with t | t | t | t <;> exact t.elim
  | _ :: _ :: _ :: _, t => rcases t with t | t | t | t <;> exact t.elim
end
end Vs
/-! VsG: equality, in, subscripts, built-in functions. -/
namespace Vs
open PySem L2
/-! ### == -/
mutual
def toPy : D → Option PyData
  | .non => some .none
  | .bl b => some (.bool b)
  | .int i => some (.int i)
  | .str s => some (.str s)
  | .tup ds => (toPys ds).map .tuple
  | .lst ds => (toPys ds).map .list
  | .rol ds => (toPys ds).map .list
  | _ => none
def toPys : List D → Option (List PyData)
  | [] => some []
  | d :: ds => (toPy d).bind fun p => (toPys ds).map fun ps => p :: ps
end
section
variable {G : Gx} {F H : Hp} {X : Cx}
mutual
theorem Rep.dp (le : Le F H) : ∀ {d : D} {v : V} {p : PyData}, Rep G F d v → toPy d = some p → Dp G.K H v p
  | .non, v, p, h, e => by simp only [Rep] at h; simp only [toPy] at e; cases e; subst h; exact .non
  | .bl b, v, p, h, e => by simp only [Rep] at h; simp only [toPy] at e; cases e; subst h; exact .bl b
  | .int i, v, p, h, e => by simp only [Rep] at h; simp only [toPy] at e; cases e; subst h; exact .int i
  | .str s, v, p, h, e => by simp only [Rep] at h; simp only [toPy] at e; cases e; subst h; exact .str s
  | .tup ds, v, p, h, e => by
    simp only [Rep] at h; simp only [toPy] at e
    obtain ⟨a, vs, rfl, h1, h2⟩ := h
    cases q : toPys ds with
    | none => rw [q] at e; cases e
    | some ps => rw [q] at e; cases e; exact .tup (le.sqt h1) (Reps.dp le h2 q)
  | .lst ds, v, p, h, e => by
    simp only [Rep] at h; simp only [toPy] at e
    obtain ⟨a, vs, rfl, h1, h2⟩ := h
    cases q : toPys ds with
    | none => rw [q] at e; cases e
    | some ps => rw [q] at e; cases e; exact .lst (.of (le _ _ h1)) (Reps.dp le h2 q)
  | .rol ds, v, p, h, e => by
    simp only [Rep] at h; simp only [toPy] at e
    obtain ⟨a, vs, rfl, h1, h2⟩ := h
    cases q : toPys ds with
    | none => rw [q] at e; cases e
    | some ps => rw [q] at e; cases e; exact .lst (le.sql h1) (Reps.dp le h2 q)
  | .dk _ _, v, p, h, e => by simp only [toPy] at e; cases e
  | .ins _ _ _, v, p, h, e => by simp only [toPy] at e; cases e
theorem Reps.dp (le : Le F H) : ∀ {ds : List D} {vs : List V} {ps : List PyData}, Reps G F ds vs → toPys ds = some ps → DpAll G.K H vs ps
  | [], vs, ps, h, e => by simp only [Reps] at h; simp only [toPys] at e; cases e; subst h; exact .nil
  | d :: ds, vs, ps, h, e => by
    simp only [Reps] at h; simp only [toPys] at e
    obtain ⟨v, r, rfl, h1, h2⟩ := h
    cases q1 : toPy d with
    | none => rw [q1] at e; cases e
    | some p =>
      rw [q1] at e
      simp only [Option.bind_some] at e
      cases q : toPys ds with
      | none => rw [q] at e; cases e
      | some ps' => rw [q] at e; cases e; exact .cons (Rep.dp le h1 q1) (Reps.dp le h2 q)
end
theorem RepB.dp (le : Le F H) {d : D} {v : V} {p : PyData} (h : RepB G F H d v) (e : toPy d = some p) : Dp G.K H v p := by
  cases d with
  | lst ds =>
    simp only [RepB] at h; simp only [toPy] at e
    obtain ⟨a, vs, rfl, h1, h2⟩ := h
    cases q : toPys ds with
    | none => rw [q] at e; cases e
    | some ps => rw [q] at e; cases e; exact .lst (.of h1) (Reps.dp le h2 q)
  | dk _ _ => simp only [toPy] at e; cases e
  | ins _ _ _ => simp only [toPy] at e; cases e
  | _ => exact Rep.dp le (by simpa only [RepB] using h) e
end
def dEq : List D → Option Bool
  | [a, b] => (toPy a).bind fun p => (toPy b).bind fun q => if p.plain && (q.plain && decide (min p.depth q.depth ≤ 60)) then some (PyData.eqv p q) else none
  | _ => none
def rEqP (K : PySem.W.Frag) : R2 := fun x y H Q => ∃ d e, Dp K H x d ∧ Dp K H y e ∧ d.plain = true ∧ e.plain = true ∧ min d.depth e.depth ≤ 60 ∧ Q (.bl (PyData.eqv d e)) H
def rNeP (K : PySem.W.Frag) : R2 := fun x y H Q => ∃ d e, Dp K H x d ∧ Dp K H y e ∧ d.plain = true ∧ e.plain = true ∧ min d.depth e.depth ≤ 60 ∧ Q (.bl (!PyData.eqv d e)) H
theorem op_eqP {X : Cx} (hu : X.A.units + 64 < cLine) : OpR X (compareOp .Eq) (rEqP X.K) := by
  intro pins s σ H x y v u Q I rx ry h
  obtain ⟨d, e, hd, he, sd, se, hm, q⟩ := h
  obtain ⟨as, r1⟩ := Dp.reads I d x v hd rx
  obtain ⟨bs, r2⟩ := Dp.reads I e y u he ry
  exact SeqAt.eq_plain r1 r2 sd se (by omega) ⟨.bl _, H, I, rfl, q⟩
theorem op_neP {X : Cx} (hu : X.A.units + 64 < cLine) : OpR X (compareOp .NotEq) (rNeP X.K) := by
  intro pins s σ H x y v u Q I rx ry h
  obtain ⟨d, e, hd, he, sd, se, hm, q⟩ := h
  obtain ⟨as, r1⟩ := Dp.reads I d x v hd rx
  obtain ⟨bs, r2⟩ := Dp.reads I e y u he ry
  exact SeqAt.ne_plain r1 r2 sd se (by omega) ⟨.bl _, H, I, rfl, q⟩
def opEq (xs : List D) : Option OD := ((dEq xs).map D.bl).map .v
def opNe (xs : List D) : Option OD := ((dEq xs).map fun b => D.bl (!b)).map .v
section
variable {G : Gx} {X : Cx}
theorem dEq_run {F H : Hp} {xs : List D} {vs : List V} {b : Bool} (le : Le F H) (hr : RepBs G F H xs vs) (e : dEq xs = some b) : ∃ v w p q, vs = [v, w] ∧ Dp G.K H v p ∧ Dp G.K H w q ∧ p.plain = true ∧ q.plain = true ∧ min p.depth q.depth ≤ 60 ∧ PyData.eqv p q = b := by
  unfold dEq at e
  split at e
  · rename_i x y
    obtain ⟨v, w, rfl, h1, h2⟩ := hr.two
    cases q1 : toPy x with
    | none => rw [q1] at e; cases e
    | some p =>
      rw [q1] at e
      simp only [Option.bind_some] at e
      cases q2 : toPy y with
      | none => rw [q2] at e; cases e
      | some q =>
        rw [q2] at e
        simp only [Option.bind_some] at e
        split at e
        · rename_i hs
          cases e
          simp only [Bool.and_eq_true, decide_eq_true_eq] at hs
          exact ⟨v, w, p, q, rfl, h1.dp le q1, h2.dp le q2, hs.1, hs.2.1, hs.2.2, rfl⟩
        · cases e
  · cases e
theorem rn_eq (hG : G.K = X.K) : RN G (RV2 (rEqP X.K)) opEq := rn_s fun F H xs vs z Q le hr ez k => by
  cases e : dEq xs with
  | none => rw [e] at ez; cases ez
  | some b =>
    rw [e] at ez; cases ez
    obtain ⟨v, w, p, q, rfl, h1, h2, s1, s2, s3, rfl⟩ := dEq_run le hr e
    rw [hG] at h1 h2
    exact ⟨p, q, h1, h2, s1, s2, s3, k _ (by simp only [Rep])⟩
theorem rn_ne (hG : G.K = X.K) : RN G (RV2 (rNeP X.K)) opNe := rn_s fun F H xs vs z Q le hr ez k => by
  cases e : dEq xs with
  | none => rw [e] at ez; cases ez
  | some b =>
    rw [e] at ez; cases ez
    obtain ⟨v, w, p, q, rfl, h1, h2, s1, s2, s3, rfl⟩ := dEq_run le hr e
    rw [hG] at h1 h2
    exact ⟨p, q, h1, h2, s1, s2, s3, k _ (by simp only [Rep])⟩
end
/-! ### is None -/
def D.isN : D → Bool
  | .non => true
  | _ => false
def dIsN : List D → Option D
  | [x, .non] => some (.bl x.isN)
  | _ => none
def dNotN : List D → Option D
  | [x, .non] => some (.bl (!x.isN))
  | _ => none
section
variable {G : Gx} {F H : Hp}
theorem repB_isN {x : D} {v : V} (h : RepB G F H x v) : decide (v = .non) = x.isN := by
  cases x <;> simp only [RepB, Rep] at h
  · subst h; rfl
  · subst h; rfl
  · subst h; rfl
  · subst h; rfl
  · obtain ⟨a, vs, rfl, _⟩ := h; rfl
  · obtain ⟨a, vs, rfl, _⟩ := h; rfl
  · obtain ⟨a, vs, rfl, _⟩ := h; rfl
  · obtain ⟨a, vs, rfl, _⟩ := h; rfl
  · obtain ⟨a, C, dx, vs, rfl, _⟩ := h; rfl
theorem rn_isN : RN G (RV2 fun x y H Q => y = .non ∧ Q (.bl (decide (x = .non))) H) (fun xs => (dIsN xs).map .v) := rn_s fun F H xs vs z Q le hr ez k => by
  unfold dIsN at ez
  split at ez
  · rename_i x
    cases ez
    obtain ⟨v, w, rfl, h1, h2⟩ := hr.two
    refine ⟨repB_non h2, ?_⟩
    rw [repB_isN h1]
    exact k _ (by simp only [Rep])
  · cases ez
theorem rn_notN : RN G (RV2 fun x y H Q => y = .non ∧ Q (.bl (!decide (x = .non))) H) (fun xs => (dNotN xs).map .v) := rn_s fun F H xs vs z Q le hr ez k => by
  unfold dNotN at ez
  split at ez
  · rename_i x
    cases ez
    obtain ⟨v, w, rfl, h1, h2⟩ := hr.two
    refine ⟨repB_non h2, ?_⟩
    rw [repB_isN h1]
    exact k _ (by simp only [Rep])
  · cases ez
end
/-! ### in -/
def flat1 : D → Option V
  | .non => some .non
  | .bl b => some (.bl b)
  | .int i => some (.int i)
  | .str s => some (.str s)
  | _ => none
def flats : List D → Option (List V)
  | [] => some []
  | d :: ds => (flat1 d).bind fun v => (flats ds).map fun vs => v :: vs
def keyD : D → Option Key
  | .int i => some (.inl i)
  | .str s => some (.inr s)
  | _ => none
def seqD : D → Option (List D)
  | .lst ds => some ds
  | .rol ds => some ds
  | .tup ds => some ds
  | _ => none
def hasK (ks : List Key) (k : Key) : Bool := ks.any fun j => decide (j = k)
def dIn : List D → Option Bool
  | [.str x, .str z] => some (match x.cps.toList with
    | [c] => decide (c ∈ z.cps.toList)
    | _ => !(Builtin.Str.occurrences z x 0 z.length 1).isEmpty)
  | [x, .dk ks _] => match x with
    | .non => some false
    | _ => (keyD x).map (hasK ks)
  | [x, s] => (seqD s).bind fun ds => (toPy x).bind fun p => (toPys ds).bind fun ps => if p.plain && (PyData.plainAll ps && decide (min (PyData.depthAll ps) p.depth ≤ 60)) then some (ps.any fun y => PyData.eqv y p) else none
  | _ => none
def rInP (K : PySem.W.Frag) (neg : Bool) : R2 := fun x y H Q => ∃ a xs d ds, y = .ref a ∧ (SqL K H a xs ∨ SqT K H a xs) ∧ Dp K H x d ∧ DpAll K H xs ds ∧ d.plain = true ∧ PyData.plainAll ds = true ∧ min (PyData.depthAll ds) d.depth ≤ 60 ∧ Q (.bl (neg ^^ ds.any fun y => PyData.eqv y d)) H
def rInA (K : PySem.W.Frag) (neg : Bool) : R2 := fun x y H Q => rInP K neg x y H Q ∨
  ((∃ c z, x = .str ⟨#[c]⟩ ∧ y = .str z ∧ Q (.bl (neg ^^ decide (c ∈ z.cps.toList))) H) ∨ (∃ i j, x = .str i ∧ y = .str j ∧ Q (.bl (neg ^^ !(Builtin.Str.occurrences j i 0 j.length 1).isEmpty)) H)) ∨
  (∃ a o, y = .ref a ∧ DGet H a x o ∧ Q (.bl (neg ^^ o.isSome)) H) ∨ ∃ a kvs, y = .ref a ∧ x = .non ∧ Rd H a (.dK kvs) ∧ Q (.bl (neg ^^ false)) H
def opIn (neg : Bool) (xs : List D) : Option OD := ((dIn xs).map fun b => D.bl (neg ^^ b)).map .v
section
variable {X : Cx}
theorem op_inP (hu : X.A.units + 64 < cLine) : OpR X (compareOp .In) (rInP X.K false) := by
  intro pins s σ H x y v u Q I rx ry h
  obtain ⟨a, xs, d, ds, rfl, hs, hd, ha, p1, p2, hm, q⟩ := h
  obtain rfl : u = Value.ref a := ry
  obtain ⟨as, r1⟩ := Dp.reads I d x v hd rx
  rcases hs with hs | hs
  · obtain ⟨bs, r2⟩ := Dp.reads I (.list ds) (.ref a) (.ref a) (.lst hs ha) rfl
    exact SeqAt.in_list_data r2 r1 p2 p1 (by omega) ⟨.bl _, H, I, rfl, by simpa using q⟩
  · obtain ⟨bs, r2⟩ := Dp.reads I (.tuple ds) (.ref a) (.ref a) (.tup hs ha) rfl
    exact SeqAt.in_tuple_data r2 r1 p2 p1 (by omega) ⟨.bl _, H, I, rfl, by simpa using q⟩
theorem op_notInP (hu : X.A.units + 64 < cLine) : OpR X (compareOp .NotIn) (rInP X.K true) := by
  intro pins s σ H x y v u Q I rx ry h
  obtain ⟨a, xs, d, ds, rfl, hs, hd, ha, p1, p2, hm, q⟩ := h
  obtain rfl : u = Value.ref a := ry
  obtain ⟨as, r1⟩ := Dp.reads I d x v hd rx
  rcases hs with hs | hs
  · obtain ⟨bs, r2⟩ := Dp.reads I (.list ds) (.ref a) (.ref a) (.lst hs ha) rfl
    exact SeqAt.notIn_list_data r2 r1 p2 p1 (by omega) ⟨.bl _, H, I, rfl, by simpa using q⟩
  · obtain ⟨bs, r2⟩ := Dp.reads I (.tuple ds) (.ref a) (.ref a) (.tup hs ha) rfl
    exact SeqAt.notIn_tuple_data r2 r1 p2 p1 (by omega) ⟨.bl _, H, I, rfl, by simpa using q⟩
theorem op_inA (hu : X.A.units + 64 < cLine) : OpR X (compareOp .In) (rInA X.K false) := by
  intro pins s σ H x y v u Q I rx ry h
  rcases h with h | (⟨c, z, e1, e2, q⟩ | ⟨i, j, e1, e2, q⟩) | ⟨a, o, rfl, g, q⟩ | ⟨a, kvs, rfl, rfl, g, q⟩
  · exact op_inP hu pins s σ H x y v u Q I rx ry h
  · exact op_in_sign pins s σ H x y v u Q I rx ry ⟨c, z, e1, e2, by simpa using q⟩
  · exact op_in_str pins s σ H x y v u Q I rx ry ⟨i, j, e1, e2, by simpa using q⟩
  · obtain rfl : u = Value.ref a := ry
    exact d_in (by omega) I g rx fun s3 I3 => ⟨.bl o.isSome, H, I3, rfl, by simpa using q⟩
  · obtain rfl : u = Value.ref a := ry
    obtain rfl : v = Value.none := rx
    exact d_inNone I g fun s3 I3 => ⟨.bl false, H, I3, rfl, q⟩
theorem op_notInA (hu : X.A.units + 64 < cLine) : OpR X (compareOp .NotIn) (rInA X.K true) := by
  intro pins s σ H x y v u Q I rx ry h
  rcases h with h | (⟨c, z, e1, e2, q⟩ | ⟨i, j, e1, e2, q⟩) | ⟨a, o, rfl, g, q⟩ | ⟨a, kvs, rfl, rfl, g, q⟩
  · exact op_notInP hu pins s σ H x y v u Q I rx ry h
  · exact op_notIn_sign pins s σ H x y v u Q I rx ry ⟨c, z, e1, e2, by simpa using q⟩
  · exact op_notIn_str pins s σ H x y v u Q I rx ry ⟨i, j, e1, e2, by simpa using q⟩
  · obtain rfl : u = Value.ref a := ry
    exact d_notIn (by omega) I g rx fun s3 I3 => ⟨.bl (!o.isSome), H, I3, rfl, by simpa using q⟩
  · obtain rfl : u = Value.ref a := ry
    obtain rfl : v = Value.none := rx
    exact d_notInNone I g fun s3 I3 => ⟨.bl true, H, I3, rfl, q⟩
variable {G : Gx} {F H : Hp}
theorem Rep.flat {d : D} {v w : V} (h : Rep G F d v) (e : flat1 d = some w) : v = w ∧ flatV v = true := by
  cases d <;> simp only [flat1] at e <;> cases e <;> simp only [Rep] at h <;> subst h <;> exact ⟨rfl, rfl⟩
theorem RepB.flat {d : D} {v w : V} (h : RepB G F H d v) (e : flat1 d = some w) : v = w ∧ flatV v = true := by
  cases d <;> simp only [flat1] at e <;> cases e <;> simp only [RepB, Rep] at h <;> subst h <;> exact ⟨rfl, rfl⟩
theorem Reps.flats : ∀ {ds : List D} {vs ws : List V}, Reps G F ds vs → flats ds = some ws → vs = ws ∧ vs.all flatV = true
  | [], vs, ws, h, e => by simp only [Reps] at h; simp only [Vs.flats] at e; cases e; subst h; exact ⟨rfl, rfl⟩
  | d :: ds, vs, ws, h, e => by
    simp only [Reps] at h
    obtain ⟨v, r, rfl, h1, h2⟩ := h
    simp only [Vs.flats] at e
    cases q1 : flat1 d with
    | none => rw [q1] at e; cases e
    | some w =>
      rw [q1] at e
      simp only [Option.bind_some] at e
      cases q2 : Vs.flats ds with
      | none => rw [q2] at e; cases e
      | some ws' =>
        rw [q2] at e; cases e
        obtain ⟨rfl, f1⟩ := h1.flat q1
        obtain ⟨rfl, f2⟩ := Reps.flats h2 q2
        exact ⟨rfl, by simp only [List.all_cons, f1, f2, Bool.and_self]⟩
theorem RepB.seq (le : Le F H) {d : D} {v : V} {ds : List D} (h : RepB G F H d v) (e : seqD d = some ds) : ∃ a vs, v = .ref a ∧ (SqL G.K H a vs ∨ SqT G.K H a vs) ∧ Reps G F ds vs := by
  cases d <;> simp only [seqD] at e <;> cases e <;> simp only [RepB, Rep] at h
  · obtain ⟨a, vs, rfl, h1, h2⟩ := h
    exact ⟨a, vs, rfl, .inr (le.sqt h1), h2⟩
  · obtain ⟨a, vs, rfl, h1, h2⟩ := h
    exact ⟨a, vs, rfl, .inl (.of h1), h2⟩
  · obtain ⟨a, vs, rfl, h1, h2⟩ := h
    exact ⟨a, vs, rfl, .inl (le.sql h1), h2⟩
theorem RepB.key {d : D} {v : V} {k : Key} (h : RepB G F H d v) (e : keyD d = some k) : v = kV k := by
  cases d <;> simp only [keyD] at e <;> cases e <;> simp only [RepB, Rep] at h <;> exact h
theorem valV_has {ks : List Key} {kvs : List (Key × V)} (h : kvs.map (·.1) = ks) (k : Key) : (valV kvs k).isSome = hasK ks k := by
  subst h
  rw [← valV_any k kvs]
  unfold hasK
  rw [List.any_map]
  rfl
theorem rn_in {neg : Bool} (hG : G.K = X.K) : RN G (RV2 (rInA X.K neg)) (opIn neg) := rn_s fun F H xs vs z Q le hr ez k => by
  cases e : dIn xs with
  | none => rw [e] at ez; cases ez
  | some b =>
    rw [e] at ez; cases ez
    have kk := k (.bl (neg ^^ b)) (by simp only [Rep])
    clear k
    unfold dIn at e
    split at e
    · rename_i x z
      obtain ⟨v, w, rfl, h1, h2⟩ := hr.two
      have e1 := repB_str h1
      have e2 := repB_str h2
      subst e1 e2
      refine .inr (.inl ?_)
      injection e with e
      split at e
      · rename_i c hc
        left
        refine ⟨c, z, ?_, rfl, by rw [e]; exact kk⟩
        have : x = ⟨#[c]⟩ := by
          cases x with | mk cps => ?_
          have : cps = #[c] := by
            apply Array.ext'
            simpa using hc
          rw [this]
        rw [this]
      · right
        exact ⟨x, z, rfl, rfl, by rw [e]; exact kk⟩
    · rename_i x ks ds
      obtain ⟨v, w, rfl, h1, h2⟩ := hr.two
      simp only [RepB] at h2
      obtain ⟨a, kvs, rfl, hd, hk, _⟩ := h2
      split at e
      · cases e
        have := repB_non h1
        subst this
        exact .inr (.inr (.inr ⟨a, kvs, rfl, rfl, .inl hd, kk⟩))
      · cases q : keyD x with
        | none => rw [q] at e; cases e
        | some ky =>
          rw [q] at e
          cases e
          have := h1.key q
          subst this
          refine .inr (.inr (.inl ⟨a, valV kvs ky, rfl, .inl ⟨kvs, ky, .inl hd, rfl, rfl⟩, ?_⟩))
          rw [valV_has hk]
          exact kk
    · rename_i x s _ _
      obtain ⟨v, w, rfl, h1, h2⟩ := hr.two
      cases q1 : seqD s with
      | none => rw [q1] at e; cases e
      | some ds =>
        rw [q1] at e
        simp only [Option.bind_some] at e
        cases q2 : toPy x with
        | none => rw [q2] at e; cases e
        | some p =>
          rw [q2] at e
          simp only [Option.bind_some] at e
          cases q3 : toPys ds with
          | none => rw [q3] at e; cases e
          | some ps =>
            rw [q3] at e
            simp only [Option.bind_some] at e
            split at e
            · rename_i hp
              cases e
              simp only [Bool.and_eq_true, decide_eq_true_eq] at hp
              obtain ⟨a, us, rfl, h3, h4⟩ := h2.seq le q1
              rw [hG] at h3
              have d1 := h1.dp le q2
              have d2 := h4.dp le q3
              rw [hG] at d1 d2
              exact .inl ⟨a, us, p, ps, rfl, h3, d1, d2, hp.1, hp.2.1, hp.2.2, kk⟩
            · cases e
    · cases e
end
/-! ### x[i] -/
def dIx : List D → Option D
  | [.str z, .int i] => if z.length ≤ sizeLine then (atI z.cps.toList i).map fun c => .str ⟨#[c]⟩ else none
  | [.dk ks ds, x] => (keyD x).bind fun k => (ks.findIdx? fun j => decide (j = k)).bind fun n => ds[n]?
  | [s, .int i] => (seqD s).bind fun ds => atI ds i
  | _ => none
def opIx (xs : List D) : Option OD := (dIx xs).map .v
def rIxA (K : PySem.W.Frag) : R2 := fun x y H Q => rIx K x y H Q ∨ ∃ a v, x = .ref a ∧ DGet H a y (some v) ∧ Q v H
section
variable {X : Cx} {G : Gx} {F H : Hp}
theorem ix_any (hu : X.A.units + 1 < cLine) : IxR X (rIxA X.K) := IxR.or ix_seq fun value slice pins s σ H x y v u Q I rx ry h hs => by
  obtain ⟨a, z, rfl, g, q⟩ := h
  obtain rfl : v = Value.ref a := rx
  exact PyProof.Rows.tail_any (dict_typeIs I g) PySem.F.slot_dict_getitem.lookup (d_getItem hu I g ry fun w' s3 I3 rw' => ⟨z, H, I3, rw', q⟩) hs
theorem atI_rep {ds : List D} {vs : List V} {i : Int} {d : D} (h : Reps G F ds vs) (e : atI ds i = some d) : ∃ v, atI vs i = some v ∧ Rep G F d v := by
  unfold atI at e ⊢
  rw [h.len]
  cases q : ixN ds.length i with
  | none => rw [q] at e; cases e
  | some j =>
    rw [q] at e
    simp only [Option.bind_some] at e ⊢
    exact h.get e
theorem dk_get {ks : List Key} {ds : List D} {kvs : List (Key × V)} {k : Key} {d : D} (hk : kvs.map (·.1) = ks) (hr : Reps G F ds (kvs.map (·.2))) (e : ((ks.findIdx? fun j => decide (j = k)).bind fun n => ds[n]?) = some d) : ∃ v, valV kvs k = some v ∧ Rep G F d v := by
  induction kvs generalizing ks ds with
  | nil => subst hk; simp at e
  | cons p r ih =>
    subst hk
    simp only [List.map_cons] at hr e
    cases ds with
    | nil => simp [Reps] at hr
    | cons d0 ds =>
      simp only [Reps] at hr
      obtain ⟨v, r', e1, h1, h2⟩ := hr
      injection e1 with e1 e2
      subst e1
      by_cases c : p.1 = k
      · have : (List.findIdx? (fun j => decide (j = k)) (p.1 :: r.map (·.1))) = some 0 := by simp [List.findIdx?_cons, c]
        rw [this] at e
        simp at e
        subst e
        exact ⟨p.2, valV_pos c, h1⟩
      · have : (List.findIdx? (fun j => decide (j = k)) (p.1 :: r.map (·.1))) = (List.findIdx? (fun j => decide (j = k)) (r.map (·.1))).map (· + 1) := by simp [List.findIdx?_cons, c]
        rw [this] at e
        obtain ⟨v, e3, h3⟩ := ih (ds := ds) rfl (by rw [e2]; exact h2) (by
          cases q : List.findIdx? (fun j => decide (j = k)) (r.map (·.1)) with
          | none => rw [q] at e; simp at e
          | some n => rw [q] at e; simpa using e)
        exact ⟨v, by rw [valV_neg c]; exact e3, h3⟩
theorem rn_ix (hG : G.K = X.K) : RN G (RV2 (rIxA X.K)) opIx := rn_s fun F H xs vs z Q le hr ez k => by
  unfold dIx at ez
  split at ez
  · rename_i z i
    split at ez
    · rename_i hz
      obtain ⟨v, w, rfl, h1, h2⟩ := hr.two
      cases q : atI z.cps.toList i with
      | none => rw [q] at ez; cases ez
      | some c =>
        rw [q] at ez; cases ez
        exact .inl (.inr (.inr ⟨z, i, c, repB_str h1, repB_int h2, hz, q, k _ (by simp only [Rep])⟩))
    · cases ez
  · rename_i ks ds x
    obtain ⟨v, w, rfl, h1, h2⟩ := hr.two
    cases q : keyD x with
    | none => rw [q] at ez; cases ez
    | some ky =>
      rw [q] at ez
      simp only [Option.bind_some] at ez
      have := h2.key q
      subst this
      simp only [RepB] at h1
      obtain ⟨a, kvs, rfl, hd, hk, hv⟩ := h1
      obtain ⟨v, e1, h3⟩ := dk_get hk hv ez
      exact .inr ⟨a, v, rfl, .inl ⟨kvs, ky, .inl hd, rfl, e1.symm⟩, k v h3⟩
  · rename_i s i _ _
    obtain ⟨v, w, rfl, h1, h2⟩ := hr.two
    have := repB_int h2
    subst this
    cases q1 : seqD s with
    | none => rw [q1] at ez; cases ez
    | some ds =>
      rw [q1] at ez
      simp only [Option.bind_some] at ez
      obtain ⟨a, us, rfl, h3, h4⟩ := h1.seq le q1
      obtain ⟨y, e1, h5⟩ := atI_rep h4 ez
      rw [hG] at h3
      rcases h3 with h3 | h3
      · exact .inl (.inl ⟨a, us, i, y, rfl, rfl, h3, e1, k y h5⟩)
      · exact .inl (.inr (.inl ⟨a, us, i, y, rfl, rfl, h3, e1, k y h5⟩))
  · cases ez
end
/-! ### built-in functions -/
def dAbs : List D → Option D
  | [.int i] => some (.int (if i < 0 then -i else i))
  | _ => none
def dNeg : List D → Option D
  | [.int i] => some (.int (-i))
  | _ => none
def dLen : List D → Option D
  | [.str z] => if z.length ≤ sizeLine then some (.int z.length) else none
  | [.dk ks _] => some (.int ks.length)
  | [s] => (seqD s).map fun ds => .int ds.length
  | _ => none
def dInt : List D → Option D
  | [.int i] => some (.int i)
  | [.bl b] => some (.int (if b then 1 else 0))
  | [.str a] => if a.length ≤ 640 then (PySem.intText? a).map .int else none
  | _ => none
def dOrd : List D → Option D
  | [.str x] => if x.length = 1 then some (.int (x.cps.getD 0 0 : Nat)) else none
  | _ => none
def dList : List D → Option (List D)
  | [s] => seqD s
  | _ => none
def dTuple : List D → Option D
  | [.lst ds] => some (.tup ds)
  | [.rol ds] => some (.tup ds)
  | [.tup ds] => some (.tup ds)
  | _ => none
def dStr : List D → Option D
  | [.int i] => if i.natAbs.log2 < 1920 then some (.str (toString i)) else none
  | _ => none
section
variable {X : Cx} {G : Gx} {F H : Hp}
theorem rn_abs : RN G (fun xs H Q => ∃ i, xs = [.int i] ∧ Q (.int (if i < 0 then -i else i)) H) (fun xs => (dAbs xs).map .v) := rn_s fun F H xs vs z Q le hr ez k => by
  unfold dAbs at ez
  split at ez
  · cases ez
    obtain ⟨v, rfl, h1⟩ := hr.one
    exact ⟨_, by rw [repB_int h1], k _ (by simp only [Rep])⟩
  · cases ez
theorem rn_neg : RN G (RV1 (rU fun i => .int (-i))) (fun xs => (dNeg xs).map .v) := rn_s fun F H xs vs z Q le hr ez k => by
  unfold dNeg at ez
  split at ez
  · cases ez
    obtain ⟨v, rfl, h1⟩ := hr.one
    exact ⟨_, repB_int h1, k _ (by simp only [Rep])⟩
  · cases ez
/-- len of anything -/
def rLenA (K : PySem.W.Frag) : List V → Hp → VK → Prop := fun xs H Q => (∃ z, xs = [.str z] ∧ z.length ≤ sizeLine ∧ Q (.int z.length) H) ∨ (∃ p ys, xs = [.ref p] ∧ (SqL K H p ys ∨ SqT K H p ys) ∧ Q (.int ys.length) H) ∨ ∃ d kvs, xs = [.ref d] ∧ H d = some (.dK kvs) ∧ Q (.int kvs.length) H
theorem call_lenA : CallR X (.builtin "len") (rLenA X.K) := by
  intro pins s σ H xs us Q I r h
  rcases h with h | h | h
  · exact call_len_str pins s σ H xs us Q I r h
  · exact call_len_seq pins s σ H xs us Q I r h
  · exact call_lenD pins s σ H xs us Q I r h
theorem rn_len (hG : G.K = X.K) : RN G (rLenA X.K) (fun xs => (dLen xs).map .v) := rn_s fun F H xs vs z Q le hr ez k => by
  unfold dLen at ez
  split at ez
  · rename_i z
    split at ez
    · rename_i hz
      cases ez
      obtain ⟨v, rfl, h1⟩ := hr.one
      exact .inl ⟨z, by rw [repB_str h1], hz, k _ (by simp only [Rep])⟩
    · cases ez
  · cases ez
    obtain ⟨v, rfl, h1⟩ := hr.one
    simp only [RepB] at h1
    obtain ⟨a, kvs, rfl, hd, hk, _⟩ := h1
    refine .inr (.inr ⟨a, kvs, rfl, hd, k _ ?_⟩)
    simp only [Rep]
    rw [← hk, List.length_map]
  · rename_i s _ _
    obtain ⟨v, rfl, h1⟩ := hr.one
    cases q : seqD s with
    | none => rw [q] at ez; cases ez
    | some ds =>
      rw [q] at ez; cases ez
      obtain ⟨a, us, rfl, h3, h4⟩ := h1.seq le q
      rw [hG] at h3
      refine .inr (.inl ⟨a, us, rfl, h3, k _ ?_⟩)
      simp only [Rep]
      rw [h4.len]
  · cases ez
def rIntA : List V → Hp → VK → Prop := fun xs H Q => ((∃ i, xs = [.int i] ∧ Q (.int i) H) ∨ ∃ k, xs = [.bl k] ∧ Q (.int (if k then 1 else 0)) H) ∨ ∃ a n, xs = [.str a] ∧ PySem.intText? a = some n ∧ a.length ≤ 640 ∧ Q (.int n) H
theorem call_intA : CallR X (.type "int") rIntA := by
  intro pins s σ H xs us Q I r h
  rcases h with h | h
  · exact call_int1 pins s σ H xs us Q I r h
  · exact call_int_str pins s σ H xs us Q I r h
theorem rn_int : RN G rIntA (fun xs => (dInt xs).map .v) := rn_s fun F H xs vs z Q le hr ez k => by
  unfold dInt at ez
  split at ez
  · cases ez
    obtain ⟨v, rfl, h1⟩ := hr.one
    exact .inl (.inl ⟨_, by rw [repB_int h1], k _ (by simp only [Rep])⟩)
  · cases ez
    obtain ⟨v, rfl, h1⟩ := hr.one
    exact .inl (.inr ⟨_, by rw [repB_bl h1], k _ (by simp only [Rep])⟩)
  · rename_i a
    split at ez
    · rename_i hz
      obtain ⟨v, rfl, h1⟩ := hr.one
      cases q : PySem.intText? a with
      | none => rw [q] at ez; cases ez
      | some n =>
        rw [q] at ez; cases ez
        exact .inr ⟨a, n, by rw [repB_str h1], q, hz, k _ (by simp only [Rep])⟩
    · cases ez
  · cases ez
theorem rn_ord : RN G (fun xs H Q => ∃ x, xs = [.str x] ∧ x.length = 1 ∧ Q (.int (x.cps.getD 0 0 : Nat)) H) (fun xs => (dOrd xs).map .v) := rn_s fun F H xs vs z Q le hr ez k => by
  unfold dOrd at ez
  split at ez
  · split at ez
    · rename_i hz
      cases ez
      obtain ⟨v, rfl, h1⟩ := hr.one
      exact ⟨_, by rw [repB_str h1], hz, k _ (by simp only [Rep])⟩
    · cases ez
  · cases ez
theorem rn_str : RN G (fun xs H Q => ∃ i, xs = [.int i] ∧ i.natAbs.log2 < 1920 ∧ Q (.str (toString i)) H) (fun xs => (dStr xs).map .v) := rn_s fun F H xs vs z Q le hr ez k => by
  unfold dStr at ez
  split at ez
  · split at ez
    · rename_i hz
      cases ez
      obtain ⟨v, rfl, h1⟩ := hr.one
      exact ⟨_, by rw [repB_int h1], hz, k _ (by simp only [Rep])⟩
    · cases ez
  · cases ez
theorem rn_list (hG : G.K = X.K) : RN G (fun xs H Q => ∃ p ys, xs = [.ref p] ∧ (SqL X.K H p ys ∨ SqT X.K H p ys) ∧ ∀ l, H l = none → Q (.ref l) (upd H l (.lst ys))) (fun xs => (dList xs).map fun ds => .l (ds.map .v)) := rn_l fun F H xs vs z Q le hr ez k => by
  unfold dList at ez
  split at ez
  · obtain ⟨v, rfl, h1⟩ := hr.one
    obtain ⟨a, us, rfl, h3, h4⟩ := h1.seq le ez
    rw [hG] at h3
    exact ⟨a, us, rfl, h3, fun l hl => k l us hl h4⟩
  · cases ez
theorem rn_tuple (hG : G.K = X.K) : RN G (fun xs H Q => ∃ p ys, xs = [.ref p] ∧ ((SqL X.K H p ys ∧ ∀ l, H l = none → Q (.ref l) (upd H l (.tup ys))) ∨ (SqT X.K H p ys ∧ Q (.ref p) H))) (fun xs => (dTuple xs).map .v) := rn_v fun F H xs vs z Q le hr ez k => by
  have mk : ∀ {a : Addr} {us : List V} {ds : List D}, z = .tup ds → Reps G F ds us → ∀ l, H l = none → Q (.ref l) (upd H l (.tup us)) := fun {a us ds} ez h l hl => by
    refine k _ _ _ (New.frz (o := .tup us) le hl) ?_
    subst ez
    simp only [Rep]
    exact ⟨l, us, rfl, .of upd_same, h.mono (New.frz le hl).lf⟩
  unfold dTuple at ez
  split at ez
  · cases ez
    obtain ⟨v, rfl, h1⟩ := hr.one
    simp only [RepB] at h1
    obtain ⟨a, us, rfl, h3, h4⟩ := h1
    exact ⟨a, us, rfl, .inl ⟨.of h3, mk (a := a) rfl h4⟩⟩
  · cases ez
    obtain ⟨v, rfl, h1⟩ := hr.one
    simp only [RepB, Rep] at h1
    obtain ⟨a, us, rfl, h3, h4⟩ := h1
    rw [hG] at h3
    exact ⟨a, us, rfl, .inl ⟨le.sql h3, mk (a := a) rfl h4⟩⟩
  · cases ez
    obtain ⟨v, rfl, h1⟩ := hr.one
    simp only [RepB, Rep] at h1
    obtain ⟨a, us, rfl, h3, h4⟩ := h1
    refine ⟨a, us, rfl, .inr ⟨by rw [hG] at h3; exact le.sqt h3, k F H _ (.refl le) ?_⟩⟩
    simp only [Rep]
    exact ⟨a, us, rfl, h3, h4⟩
  · cases ez
end
/-! ### methods of the built-in types -/
/-- the receiver's kind -/
def kdOf : D → String
  | .str _ => "str"
  | .int _ => "int"
  | .lst _ => "list"
  | .rol _ => "list"
  | .dk _ _ => "dict"
  | _ => ""
def isKd (T : String) (ρ : Env) (d : DV) : Bool := match d with
  | .own od => kdOf od.fz == T
  | .plc i => match ρ[i]?.join with
    | some (.v d) => kdOf d == T
    | some (.l _) => T == "list"
    | some (.k _ _) => T == "dict"
    | _ => false
def mBm (T : String) (op : List D → Option OD) (r : Opd) (as : List Opd) : M OD := fun ρ => if T ≠ "" ∧ okPl ρ (r :: as) = true then (r.ev ρ).bind fun d ρ1 => if isKd T ρ1 d then (evAll as ρ1).bind fun ds ρ2 => match (res ρ2 (d :: ds)).bind op with
    | some z => .ok z ρ2
    | none => .stuck else .stuck else .stuck
section
variable {G : Gx} {W : WX} {F F' F1 F2 F3 H H' H1 H2 H3 : Hp} {A A' A1 A2 A3 : AS} {ρ ρ' κ : Env} {σ ς : St} {X : Cx} {T : String}
theorem kd_ty {d : D} {v : V} (le : Le F H) (hG : G.K = X.K) (hT : T ≠ "") (h : Rep G F d v) (e : kdOf d = T) : tyV X.K T v H := by
  cases d <;> simp only [kdOf] at e <;> simp only [Rep] at h
  · exact absurd e.symm hT
  · exact absurd e.symm hT
  · subst h e; rfl
  · subst h e; rfl
  · exact absurd e.symm hT
  · obtain ⟨a, vs, rfl, h1, _⟩ := h
    subst e
    exact .inl ⟨rfl, vs, .of (le _ _ h1)⟩
  · obtain ⟨a, vs, rfl, h1, _⟩ := h
    subst e
    rw [hG] at h1
    exact .inl ⟨rfl, vs, le.sql h1⟩
  · obtain ⟨a, kvs, rfl, h1, _⟩ := h
    subst e
    exact .inr (.inr (.inl ⟨rfl, .inl ⟨kvs, le _ _ h1⟩⟩))
  · exact absurd e.symm hT
theorem isKd_run {d : DV} {v : V} (hG : G.K = X.K) (hT : T ≠ "") (S : Stt G F H (d.slot :: (κ ++ ρ)) (some v :: (ς ++ σ)) A) (hl : ς.length = κ.length) (hv : ∀ i, d = .plc i → σ[i]? = some (some v)) (h : isKd T ρ d = true) : tyV X.K T v H := by
  cases d with
  | own od =>
    obtain ⟨F', A', hr, S', _, _⟩ := Stt.frz (p := true) (show Stt G F H (some od :: (κ ++ ρ)) (some v :: (ς ++ σ)) A from S)
    exact kd_ty S'.le hG hT hr (by simpa [isKd] using h)
  | plc i =>
    unfold isKd at h
    simp only at h
    cases q0 : ρ[i]? with
    | none => rw [q0] at h; simp at h
    | some y =>
      cases y with
      | none => rw [q0] at h; simp at h
      | some od =>
        rw [q0] at h
        obtain ⟨w, A1, A2, h1, h2, _⟩ := (Stt.pop_n S).sl.at (getKap (κ := κ) q0)
        rw [getSig hl, hv i rfl] at h1
        cases h1
        simp only [Option.join_some] at h
        cases od with
        | v dd =>
          simp only [OT] at h2
          exact kd_ty S.le hG hT h2.1 (by simpa using h)
        | l xs =>
          simp only [OT] at h2
          obtain ⟨a, vs, A', rfl, h3, _⟩ := h2
          have : T = "list" := by simpa using h
          subst this
          exact .inl ⟨rfl, vs, .of h3⟩
        | k ks xs =>
          simp only [OT] at h2
          obtain ⟨a, kvs, A', rfl, h3, _⟩ := h2
          have : T = "dict" := by simpa using h
          subst this
          exact .inr (.inr (.inl ⟨rfl, .inl ⟨kvs, h3⟩⟩))
        | o _ _ _ => simp at h
theorem bms_run {op : List D → Option OD} {r : Opd} {as : List Opd} {rr : V → List V → Hp → VK → Prop} {Q : VK} (hG : G.K = X.K) (R : RN G (fun vs H Q => match vs with | x :: xs => rr x xs H Q | [] => False) op) (q : TX G W (pAll (r :: as)) (mBm T op r as) σ H Q) :
    tOpd G W r σ H fun x H1 => tyV X.K T x H1 ∧ tAll G W as σ H1 fun xs H2 => rr x xs H2 Q := by
  obtain ⟨F, ρ, A, κ, ς, S, hl, q⟩ := q
  unfold mBm at q
  by_cases ho : T ≠ "" ∧ okPl ρ (r :: as) = true
  · rw [if_pos ho] at q
    have okk := okPl_ok S hl ho.2
    refine tOpd_run S hl (okk r List.mem_cons_self) ?_
    cases e1 : r.ev ρ with
    | stuck => rw [e1] at q; exact q
    | exc x ρ' => rw [e1] at q; exact q
    | ok d ρ1 =>
      rw [e1] at q
      simp only [Out.bind_ok] at q
      intro F1 H1 v1 A1 g1 S1 l1
      by_cases hi : isKd T ρ1 d = true
      · rw [if_pos hi] at q
        refine ⟨isKd_run hG ho.1 S1 hl l1 hi, ?_⟩
        refine tAll_run (κ := d.slot :: κ) (ς := some v1 :: ς) (ρ := ρ1) S1 (by simp [hl]) (fun b hb => okk b (List.mem_cons_of_mem _ hb)) ?_
        cases e2 : evAll as ρ1 with
        | stuck => rw [e2] at q; exact q
        | exc x ρ2 =>
          rw [e2] at q
          intro F' H' A' cls dd g S' xr
          obtain ⟨A'', S'', sub⟩ := Stt.dropTop (show Stt G F' H' (d.slot :: (κ ++ ρ2)) (some v1 :: (ς ++ σ)) A' from S')
          exact q F' H' A'' cls dd (((g1.trans g).imp (fun z => by cases z)).less sub) S'' xr
        | ok ds ρ2 =>
          rw [e2] at q
          simp only [Out.bind_ok] at q
          intro F2 H2 vs A2 g2 S2 l2
          have hl2 : (vs.map some).length = (ds.map DV.slot).length := by simp [l2.len]
          have S3 : Stt G F2 H2 ((d :: ds).map DV.slot ++ (κ ++ ρ2)) ((v1 :: vs).map some ++ (ς ++ σ)) A2 := S2.swap hl2
          have l3 : Lnk σ (d :: ds) (v1 :: vs) := by
            cases d with
            | own od => exact ⟨_, _, rfl, l2⟩
            | plc i => exact ⟨_, _, rfl, l1 i rfl, l2⟩
          cases e3 : res ρ2 (d :: ds) with
          | none => rw [e3] at q; exact q.elim
          | some xs =>
            rw [e3] at q
            simp only [Option.bind_some] at q
            cases e4 : op xs with
            | none => rw [e4] at q; exact q.elim
            | some z =>
              rw [e4] at q
              exact app_done (p := pAll (r :: as)) (vs := v1 :: vs) R ((g1.trans g2).imp fun z => by simpa [pAll] using z) S3 hl l3 e3 e4 q
      · rw [if_neg hi] at q; exact q.elim
  · rw [if_neg ho] at q; exact q.elim
variable {o e : Expr} {es : List Expr} {as : List Opd} {name : Str} {apos cpos : Pos} {id : String} {rr : V → List V → Hp → VK → Prop} {op : List D → Option OD} {r : Opd}
theorem sx_bm (hG : G.K = X.K) (pa : PlainAttrs T) (slot : Slot T name id) (hty : typeOf (.builtin id) = pure (.type "method_descriptor")) (hm : MtR X id rr) (R : RN G (fun vs H Q => match vs with | x :: xs => rr x xs H Q | [] => False) op) (ho : SO X G W o r) (ha : PA X (e :: es) (tAll G W as))
    (hbase : attributeBase o name X.env (eval o X.env) = eval o X.env := by rfl)
    (hfew : ((backTo cpos (starEach (e :: es) X.env)).all (fun x => !x.1) && (backToKw cpos (keywordEach [] X.env)).all (fun x => x.1.isSome)
      && decide ((e :: es).length + ([] : List Keyword).length + (if ([] : List Keyword).isEmpty then 0 else 1) < 30)) = true := by rfl)
    (hline : (apos.endLine == cpos.line) = true := by rfl) (hs : starEach (e :: es) X.env = (false, eval e X.env) :: starEach es X.env := by rfl) (hplain : (backTo cpos (starEach es X.env)).any (·.1) = false := by rfl) :
    SX X G W (pAll (r :: as)) (.Call (.Attribute o name apos) (e :: es) [] cpos) (mBm T op r as) := PE.of (pe_bm pa slot hty hm ho ha hbase hfew hline hs hplain) fun σ H Q q => bms_run hG R q
theorem sx_bm0 (hG : G.K = X.K) (pa : PlainAttrs T) (slot : Slot T name id) (hty : typeOf (.builtin id) = pure (.type "method_descriptor")) (hm : MtR X id rr) (R : RN G (fun vs H Q => match vs with | x :: xs => rr x xs H Q | [] => False) op) (ho : SO X G W o r)
    (hbase : attributeBase o name X.env (eval o X.env) = eval o X.env := by rfl) (hline : (apos.endLine == cpos.line) = true := by rfl) :
    SX X G W (pAll [r]) (.Call (.Attribute o name apos) [] [] cpos) (mBm T op r []) := PE.of (pe_bm0 pa slot hty hm ho hbase hline) fun σ H Q q => bms_run hG R q
end
/-! ### texts -/
def textsD : List D → Option (List Str)
  | [] => some []
  | .str x :: r => (textsD r).map fun xs => x :: xs
  | _ :: _ => none
def dJoin : List D → Option D
  | [.str a, s] => (seqD s).bind fun ds => (textsD ds).bind fun ys => if (ys.map (·.length)).sum + ys.length * a.length ≤ 16777216 then some (.str (Txt.join a ys)) else none
  | _ => none
section
variable {X : Cx} {G : Gx} {F H : Hp}
theorem Reps.texts : ∀ {ds : List D} {vs : List V} {ys : List Str}, Reps G F ds vs → textsD ds = some ys → vs = ys.map V.str
  | [], vs, ys, h, e => by simp only [Reps] at h; simp only [textsD] at e; cases e; subst h; rfl
  | d :: ds, vs, ys, h, e => by
    simp only [Reps] at h
    obtain ⟨v, r, rfl, h1, h2⟩ := h
    cases d <;> simp only [textsD] at e <;> try cases e
    cases q : textsD ds with
    | none => rw [q] at e; cases e
    | some xs =>
      rw [q] at e; cases e
      simp only [Rep] at h1
      rw [h1, Reps.texts h2 q]; rfl
theorem rn_join (hG : G.K = X.K) : RN G (fun vs H Q => match vs with | x :: xs => (fun x xs H Q => ∃ a p, ∃ ys : List Str, x = .str a ∧ xs = [.ref p] ∧ (SqL X.K H p (ys.map V.str) ∨ SqT X.K H p (ys.map V.str)) ∧
    (ys.map (·.length)).sum + ys.length * a.length ≤ 16777216 ∧ Q (.str (Txt.join a ys)) H) x xs H Q | [] => False) (fun xs => (dJoin xs).map .v) := rn_s fun F H xs vs z Q le hr ez k => by
  unfold dJoin at ez
  split at ez
  · rename_i a s
    obtain ⟨v, w, rfl, h1, h2⟩ := hr.two
    cases q1 : seqD s with
    | none => rw [q1] at ez; cases ez
    | some ds =>
      rw [q1] at ez
      simp only [Option.bind_some] at ez
      cases q2 : textsD ds with
      | none => rw [q2] at ez; cases ez
      | some ys =>
        rw [q2] at ez
        simp only [Option.bind_some] at ez
        split at ez
        · rename_i hz
          cases ez
          obtain ⟨p, us, rfl, h3, h4⟩ := h2.seq le q1
          have := h4.texts q2
          subst this
          rw [hG] at h3
          exact ⟨a, p, ys, repB_str h1, rfl, h3, hz, k _ (by simp only [Rep])⟩
        · cases ez
  · cases ez
end
/-! ### dicts -/
def repK (k : Key) (x : D) : List Key → List D → List D
  | j :: ks, y :: ys => (if j = k then x else y) :: repK k x ks ys
  | _, ys => ys
def putD (ks : List Key) (xs : List D) (k : Key) (x : D) : List Key × List D := if hasK ks k then (ks, repK k x ks xs) else (ks ++ [k], xs ++ [x])
def mkDict : List Key → List D → List D → Option (List Key × List D)
  | ks, xs, [] => some (ks, xs)
  | ks, xs, k :: v :: r => (keyD k).bind fun k => mkDict (putD ks xs k v).1 (putD ks xs k v).2 r
  | _, _, _ => none
/-- data whose own object never changes -/
def D.still : D → Bool
  | .lst _ => false
  | .dk _ _ => false
  | .ins _ _ _ => false
  | _ => true
def dGet2 : List D → Option D
  | [.dk ks ds, x, y] => if y.still then match x with
    | .non => some y
    | _ => (keyD x).map fun k => match ks.findIdx? fun j => decide (j = k) with
      | some n => (ds[n]?).getD y
      | none => y
    else none
  | _ => none
theorem RepB.still {G : Gx} {F H : Hp} {d : D} {v : V} (h : RepB G F H d v) (e : d.still = true) : Rep G F d v := by
  cases d <;> simp only [D.still] at e <;> try cases e
  all_goals simpa only [RepB] using h
section
variable {X : Cx} {G : Gx} {F H : Hp}
theorem repK_rep {k : Key} {d : D} {v : V} (hv : Rep G F d v) : ∀ {kvs : List (Key × V)} {ds : List D}, Reps G F ds (kvs.map (·.2)) → Reps G F (repK k d (kvs.map (·.1)) ds) ((kvs.map fun kv => if kv.1 = k then (kv.1, v) else kv).map (·.2))
  | [], ds, h => by simpa [repK] using h
  | p :: r, [], h => by simp [Reps] at h
  | p :: r, d0 :: ds, h => by
    simp only [List.map_cons, Reps] at h
    obtain ⟨v0, r', e1, h1, h2⟩ := h
    injection e1 with e1 e2
    subst e1
    simp only [List.map_cons, repK]
    refine .cons ?_ (repK_rep hv (by rw [e2]; exact h2))
    by_cases c : p.1 = k
    · simp only [c, if_pos]; exact hv
    · simp only [c, if_neg, not_false_eq_true]; exact h1
theorem putK_rep {ks : List Key} {ds : List D} {kvs : List (Key × V)} {k : Key} {d : D} {v : V} (hk : kvs.map (·.1) = ks) (hr : Reps G F ds (kvs.map (·.2))) (hv : Rep G F d v) :
    (putK kvs k v).map (·.1) = (putD ks ds k d).1 ∧ Reps G F (putD ks ds k d).2 ((putK kvs k v).map (·.2)) := by
  subst hk
  have e : hasK (kvs.map (·.1)) k = (kvs.any fun kv => decide (kv.1 = k)) := by unfold hasK; rw [List.any_map]; rfl
  unfold putK putD
  rw [e]
  by_cases c : (kvs.any fun kv => decide (kv.1 = k)) = true
  · rw [if_pos c, if_pos c]
    refine ⟨?_, repK_rep hv hr⟩
    rw [List.map_map]
    apply List.map_congr_left
    intro p _
    simp only [Function.comp]
    split <;> rfl
  · rw [if_neg c, if_neg c]
    exact ⟨by simp, by simpa using hr.append (.one hv)⟩
/-- the pairs of a display -/
def pairUp : List V → List (V × V)
  | x :: y :: r => (x, y) :: pairUp r
  | _ => []
theorem mkDict_rep : ∀ {es : List D} {vs : List V} {ks ks' : List Key} {ds ds' : List D} {kvs : List (Key × V)}, Reps G F es vs → kvs.map (·.1) = ks → Reps G F ds (kvs.map (·.2)) → mkDict ks ds es = some (ks', ds') →
    ∃ more : List (Key × V), pairUp vs = more.map (fun kv => (kV kv.1, kv.2)) ∧ more.length * 2 = es.length ∧ (mergeK kvs more).map (·.1) = ks' ∧ Reps G F ds' ((mergeK kvs more).map (·.2))
  | [], vs, ks, ks', ds, ds', kvs, h, hk, hr, e => by
    simp only [mkDict] at e; cases e
    simp only [Reps] at h; subst h
    exact ⟨[], rfl, rfl, hk, hr⟩
  | [a], vs, ks, ks', ds, ds', kvs, h, hk, hr, e => by simp [mkDict] at e
  | a :: b :: es, vs, ks, ks', ds, ds', kvs, h, hk, hr, e => by
    simp only [Reps] at h
    obtain ⟨v, r, rfl, h1, w, r2, rfl, h2, h3⟩ := h
    simp only [mkDict] at e
    cases q : keyD a with
    | none => rw [q] at e; cases e
    | some k =>
      rw [q] at e
      simp only [Option.bind_some] at e
      obtain ⟨p1, p2⟩ := putK_rep (k := k) hk hr h2
      obtain ⟨more, m1, m2, m3, m4⟩ := mkDict_rep h3 p1 p2 e
      have : v = kV k := by cases a <;> simp only [keyD] at q <;> cases q <;> simp only [Rep] at h1 <;> exact h1
      subst this
      exact ⟨(k, w) :: more, by simp [pairUp, m1], by simp; omega, m3, m4⟩
end
def kDict (ods : List OD) : Option OD := if ods.length ≤ 30 then (mkDict [] [] (OD.fzs ods)).map fun r => .k r.1 (r.2.map .v) else none
def mDict (as : List Opd) : M OD := mTake as kDict
def flatP : List (Opd × Opd) → List Opd
  | [] => []
  | (a, b) :: r => a :: b :: flatP r
section
variable {X : Cx} {G : Gx} {W : WX} {F H : Hp} {pos : Pos}
theorem tOpd_mono {a : Opd} {σ : St} {H : Hp} {Q Q' : VK} (h : tOpd G W a σ H Q) (k : ∀ v H, Q v H → Q' v H) : tOpd G W a σ H Q' := by
  cases a with
  | val p f => exact TX.mono h k
  | plc i => obtain ⟨v, e, q⟩ := h; exact ⟨v, e, k _ _ q⟩
theorem pairs_of : ∀ {as : List (Opd × Opd)} {σ : St} {H : Hp} {Q : List (V × V) → Hp → Prop}, tAll G W (flatP as) σ H (fun vs H1 => Q (pairUp vs) H1) → tPairs (as.map fun p => (tOpd G W p.1, tOpd G W p.2)) σ H Q
  | [], σ, H, Q, h => h
  | (a, b) :: r, σ, H, Q, h => tOpd_mono h fun x H1 h1 => tOpd_mono h1 fun y H2 h2 => pairs_of (Q := fun ps H3 => Q ((x, y) :: ps) H3) h2
theorem sx_dict {keys : List (Option Expr)} {values : List Expr} {as : List (Opd × Opd)} (h : PPs X pos keys values (as.map fun p => (tOpd G W p.1, tOpd G W p.2))) (hall : keys.all (·.isSome) = true) (hl : keys.length = values.length) (h0 : keys ≠ []) (h15 : keys.length ≤ 15) :
    SX X G W (pAll (flatP as)) (.Dict keys values pos) (mDict (flatP as)) := PE.of (pe_disp h hall hl h0 h15) fun σ H Q q => by
  intro p hp
  refine pairs_of ?_
  obtain ⟨F, ρ, A, κ, ς, S, hl, q⟩ := q
  unfold mDict mTake at q
  by_cases ho : okPl ρ (flatP as) = true
  · rw [if_pos ho] at q
    have hF : F p = none := by
      cases q : F p with
      | none => rfl
      | some o => rw [S.le p o q] at hp; cases hp
    have n0 : New F H F (upd H p (.dK [])) := .own S.le hp
    have hempty : OT G F (upd H p (.dK [])) (.k [] []) (.ref p) fun a => a = p := by
      simp only [OT, OTs]
      exact ⟨p, [], fun _ => False, rfl, upd_same, rfl, ⟨rfl, fun _ z => z⟩, .nil_r fun _ z => z⟩
    obtain ⟨A0, S0, h0'⟩ := (S.new n0).push hempty fun a z => by
      subst z
      refine ⟨hF, fun w => ?_⟩
      obtain ⟨o, q⟩ := S.sl.there a w
      rw [hp] at q; cases q
    have g0 : Go true F H A F (upd H p (.dK [])) A0 := ⟨n0.lf, fun a o q _ => n0.lh a o q, fun a z => ((h0' a).1 z).elim (fun e => .inr (e ▸ hp)) .inl, fun _ _ q => .inl q⟩
    refine tAll_run (κ := some (.k [] []) :: κ) (ς := some (.ref p) :: ς) S0 (by simp [hl]) (okPl_ok S hl ho) ?_
    cases e1 : evAll (flatP as) ρ with
    | stuck => rw [e1] at q; exact q
    | exc x ρ' =>
      rw [e1] at q
      intro F' H' A' cls dd g S' xr
      obtain ⟨A'', S'', sub⟩ := Stt.dropTop (show Stt G F' H' (some (.k [] []) :: (κ ++ ρ')) (some (.ref p) :: (ς ++ σ)) A' from S')
      exact q F' H' A'' cls dd (((g0.trans g).imp fun z => by cases z).less sub) S'' xr
    | ok ds ρ' =>
      rw [e1] at q
      simp only [Out.bind_ok] at q
      intro F1 H1 vs A1 g1 S1 l1
      cases e2 : takeAll ds ρ' with
      | none => rw [e2] at q; exact q.elim
      | some z =>
        obtain ⟨ods, ρ2⟩ := z
        rw [e2] at q
        simp only at q
        obtain ⟨F2, A2, S2, g2⟩ := take_run (κ := some (.k [] []) :: κ) (ς := some (.ref p) :: ς) S1 (by simp [hl]) l1 e2
        have hlv : vs.length = ods.length := by have := (takeAll_len e2).1; rw [l1.len]; exact this.symm
        obtain ⟨F3, A3, hr, S3, g3⟩ := S2.frzs hlv
        obtain ⟨B, A4, ho4, S4, c4, hB4⟩ := Stt.pop (show Stt G F3 H1 (some (.k [] []) :: (κ ++ ρ2)) (some (.ref p) :: (ς ++ σ)) A3 from S3)
        simp only [OT, OTs] at ho4
        obtain ⟨p', kvs, B', ep, hd, hk, ⟨_, hB'⟩, cB⟩ := ho4
        cases ep
        have hk0 : kvs = [] := by simpa using hk
        subst hk0
        refine ⟨hd, ?_⟩
        unfold kDict at q
        split at q
        · rename_i od hm
          split at hm
          · rename_i h30
            cases e5 : mkDict [] [] (OD.fzs ods) with
            | none => rw [e5] at hm; cases hm
            | some r =>
              obtain ⟨ks', ds'⟩ := r
              rw [e5] at hm; cases hm
              obtain ⟨more, m1, m2, m3, m4⟩ := mkDict_rep hr (kvs := []) rfl (by simp [Reps]) e5
              have hlen : (OD.fzs ods).length = ods.length := by rw [OD.fzs_map, List.length_map]
              refine ⟨more, m1, by omega, ?_⟩
              have hpB : B p := (cB.1 p).2 (.inl rfl)
              have hpA : ¬ A4 p := c4.2 p hpB
              have hF3 : F3 p = none := hB4 p hpB
              have le5 : Le F3 (upd H1 p (.dK (mergeK [] more))) := fun a o e => by
                by_cases ha : a = p
                · subst ha; rw [hF3] at e; cases e
                · rw [upd_ne ha]; exact S3.le a o e
              have S5 : Stt G F3 (upd H1 p (.dK (mergeK [] more))) (κ ++ ρ2) (ς ++ σ) A4 := ⟨le5, S4.sl.mono (.refl _) fun a z => upd_ne fun e => hpA (e ▸ z), S4.fr⟩
              have ho5 : OT G F3 (upd H1 p (.dK (mergeK [] more))) (.k ks' (ds'.map .v)) (.ref p) fun a => a = p := by
                simp only [OT]
                exact ⟨p, _, fun _ => False, rfl, upd_same, m3, ots_v m4, .nil_r fun _ z => z⟩
              obtain ⟨A6, S6, h6⟩ := S5.push ho5 fun a z => by subst z; exact ⟨hF3, hpA⟩
              refine q _ _ _ A6 ?_ S6
              have gg : Go (pAll (flatP as)) F H A F3 H1 A3 := (((g0.trans g1).trans g2).trans g3).imp fun z => by simp [z]
              refine ⟨gg.le, fun a o e n => ?_, fun a z => ?_, gg.nf⟩
              · have : a ≠ p := fun z => by subst z; rw [hp] at e; cases e
                rw [upd_ne this]
                exact gg.keep a o e n
              · rcases (h6 a).1 z with rfl | b
                · exact .inr hp
                · exact gg.sub a (c4.r b)
          · cases hm
        · exact q.elim
  · rw [if_neg ho] at q; exact q.elim
end
/-- d.get(k, x), k None too -/
def rGet2 : V → List V → Hp → VK → Prop := fun x xs H Q => ∃ a y z, x = .ref a ∧ xs = [y, z] ∧ ((∃ o, DGet H a y o ∧ Q (o.getD z) H) ∨ ∃ kvs, y = .non ∧ H a = some (.dK kvs) ∧ Q z H)
section
variable {X : Cx} {G : Gx} {F H : Hp}
theorem d_getNone {pins : List (Addr × Obj)} {σ : St} {H : Hp} {s : Shared} {a : Addr} {kvs : List (Key × V)} {A : Around} {E : Value → Shared → Prop} {z : V} {r : Value} {Q : Value → Shared → Prop} (I : Inv X pins σ H s) (e : Rd H a (.dK kvs)) (rz : RelV z r) (h : ∀ w s', Inv X pins σ H s' → RelV z w → Q w s') :
    wpAny (model X.prog X.w) A (call (.builtin "dict.get") [.ref a, .none, r]) Q E s := by
  obtain ⟨_, hd, vs, _, dd⟩ := dk_rd I.hok e
  obtain ⟨f, hm, hf⟩ := none_map dd
  refine call_meetsIn PySem.F.slot_dict_get dd.typeIs PySem.F.entry_dict_get (PySem.F.args_dict_get_3 _ _ _) (meets_dict_get_default (noneKind X.prog X.w) a (show (noneKind X.prog X.w).is none .none = true from rfl) hd r) ⟨_, hm, ?_⟩
  rw [hf]
  exact h _ _ (I.tok _) rz
theorem mt_get2 (hu : X.A.units + 1 < cLine) : MtR X "dict.get" rGet2 := by
  intro pins s σ H x xs v us Q I rx rs h
  obtain ⟨a, y, z, rfl, rfl, h⟩ := h
  cases rx
  obtain ⟨u1, u2, rfl, r1, r2⟩ := vals2 rs
  rcases h with ⟨o, g, q⟩ | ⟨kvs, rfl, hd, q⟩
  · exact d_get2 hu I g r1 r2 fun w s3 I3 rw => ⟨_, H, I3, rw, q⟩
  · obtain rfl : u1 = Value.none := r1
    exact d_getNone I (.inl hd) r2 fun w s3 I3 rw => ⟨_, H, I3, rw, q⟩
theorem dk_find {ks : List Key} {ds : List D} {kvs : List (Key × V)} {k : Key} {y : D} {w : V} (hk : kvs.map (·.1) = ks) (hr : Reps G F ds (kvs.map (·.2))) (hy : Rep G F y w) :
    Rep G F (match ks.findIdx? fun j => decide (j = k) with | some n => (ds[n]?).getD y | none => y) ((valV kvs k).getD w) := by
  cases e : ks.findIdx? fun j => decide (j = k) with
  | none =>
    have : valV kvs k = none := by
      have h1 := valV_has hk k
      have h2 : hasK ks k = false := by
        unfold hasK
        rw [List.any_eq_false]
        intro j hj
        have := List.findIdx?_eq_none_iff.mp e j hj
        simpa using this
      rw [h2] at h1
      cases q : valV kvs k with
      | none => rfl
      | some z => rw [q] at h1; cases h1
    rw [this]; exact hy
  | some n =>
    have hn : n < ds.length := by
      have h1 : n < ks.length := (List.findIdx?_eq_some_iff_getElem.mp e).1
      have h2 := hr.len
      rw [← hk, List.length_map] at h1
      simp only [List.length_map] at h2
      omega
    have ed : ds[n]? = some ds[n] := List.getElem?_eq_getElem hn
    obtain ⟨v, e1, h3⟩ := dk_get (k := k) hk hr (d := ds[n]) (by rw [e]; exact ed)
    rw [e1]
    simp only [ed, Option.getD_some]
    exact h3
theorem rn_get2 : RN G (fun vs H Q => match vs with | x :: xs => rGet2 x xs H Q | [] => False) (fun xs => (dGet2 xs).map .v) := rn_s fun F H xs vs z Q le hr ez k => by
  unfold dGet2 at ez
  split at ez
  · rename_i ks ds x y
    obtain ⟨v, w, u, rfl, h1, h2, h3⟩ := hr.three
    simp only [RepB] at h1
    obtain ⟨a, kvs, rfl, hd, hk, hv⟩ := h1
    split at ez
    rotate_left
    · cases ez
    rename_i hst
    have h3 := h3.still hst
    split at ez
    · cases ez
      exact ⟨a, w, u, rfl, rfl, .inr ⟨kvs, repB_non h2, hd, k _ h3⟩⟩
    · cases q : keyD x with
      | none => rw [q] at ez; cases ez
      | some ky =>
        rw [q] at ez; cases ez
        have := h2.key q
        subst this
        refine ⟨a, _, u, rfl, rfl, .inl ⟨_, .inl ⟨kvs, ky, .inl hd, rfl, rfl⟩, k _ (dk_find hk hv h3)⟩⟩
  · cases ez
end
end Vs
/-! VsH: stores into lists and dicts, comprehensions. -/
namespace Vs
open PySem L2
section
variable {G : Gx} {F F' F1 F2 F3 H H' H1 H2 H3 : Hp} {A A' A1 A2 A3 B : AS} {ρ ρ' κ : Env} {σ ς : St}
/-- an item apart from the others -/
theorem OTs.at : ∀ {xs : List OD} {vs : List V} {A : AS} {j : Nat} {x : OD}, OTs G F H xs vs A → xs[j]? = some x → ∃ v A1 A2, vs[j]? = some v ∧ OT G F H x v A1 ∧ Cut A A1 A2 ∧
    ∀ F' H' x' v' A1' A', Le F F' → (∀ a, A2 a → H' a = H a) → OT G F' H' x' v' A1' → Cut A' A1' A2 → OTs G F' H' (xs.set j x') (vs.set j v') A'
  | [], vs, A, j, x, h, e => by simp at e
  | y :: xs, vs, A, 0, x, h, e => by
    simp only [OTs] at h
    obtain ⟨v, r, B1, B2, rfl, h1, h2, c⟩ := h
    simp at e; subst e
    refine ⟨v, B1, B2, rfl, h1, c, fun F' H' x' v' A1' A' le k ho c' => ?_⟩
    simp only [List.set_cons_zero, OTs]
    exact ⟨_, _, A1', B2, rfl, ho, h2.mono le k, c'⟩
  | y :: xs, vs, A, j + 1, x, h, e => by
    simp only [OTs] at h
    obtain ⟨v, r, B1, B2, rfl, h1, h2, c⟩ := h
    obtain ⟨w, C1, C2, e1, h3, c2, back⟩ := OTs.at (j := j) h2 (by simpa using e)
    obtain ⟨Y, c3, c4⟩ := c.symm.assoc c2
    -- A = C1 + Y, Y = C2 + B1
    refine ⟨w, C1, Y, by simpa using e1, h3, c3, fun F' H' x' v' A1' A' le k ho c' => ?_⟩
    simp only [List.set_cons_succ, OTs]
    have cz : Cut (fun a => A1' a ∨ C2 a) A1' C2 := .mk' _ _ fun a z y => c'.2 a z (c4.l y)
    refine ⟨_, _, B1, fun a => A1' a ∨ C2 a, rfl, h1.mono le fun a z => k a (c4.r z), back F' H' x' v' A1' _ le (fun a z => k a (c4.l z)) ho cz, ⟨fun a => ?_, fun a z y => ?_⟩⟩
    · rw [c'.1 a, c4.1 a]
      constructor
      · rintro (z | z | z)
        · exact .inr (.inl z)
        · exact .inr (.inr z)
        · exact .inl z
      · rintro (z | z | z)
        · exact .inr (.inr z)
        · exact .inl z
        · exact .inr (.inl z)
    · rcases y with y | y
      · exact c'.2 a y (c4.r z)
      · exact c4.2 a y z
theorem OTs.len : ∀ {xs : List OD} {vs : List V} {A : AS}, OTs G F H xs vs A → vs.length = xs.length
  | [], vs, A, h => by simp only [OTs] at h; rw [h.1]; rfl
  | x :: xs, vs, A, h => by
    simp only [OTs] at h
    obtain ⟨v, r, A1, A2, rfl, _, h2, _⟩ := h
    simp [OTs.len h2]
theorem OTs.snoc : ∀ {xs : List OD} {vs : List V} {A A' B : AS} {x : OD} {v : V}, OTs G F H xs vs A → OT G F H x v B → Cut A' A B → OTs G F H (xs ++ [x]) (vs ++ [v]) A'
  | [], vs, A, A', B, x, v, h, ho, c => by
    simp only [OTs] at h
    obtain ⟨rfl, hn⟩ := h
    simp only [List.nil_append, OTs]
    exact ⟨v, [], B, A, rfl, ho, ⟨rfl, hn⟩, c.symm⟩
  | y :: xs, vs, A, A', B, x, v, h, ho, c => by
    simp only [OTs] at h
    obtain ⟨w, r, B1, B2, rfl, h1, h2, c1⟩ := h
    obtain ⟨Y, c3, c4⟩ := c.assoc c1
    simp only [List.cons_append, OTs]
    exact ⟨w, r ++ [v], B1, Y, rfl, h1, OTs.snoc h2 ho c4, c3⟩
/-- the object of a slot is written: what it was, what it becomes -/
theorem Stt.write {i : Nat} {od od' : OD} {a : Addr} {o : HO} {v : V} {B : AS} (S : Stt G F H ρ σ A) (e : ρ[i]? = some (some od)) (ev : σ[i]? = some (some v))
    (h : ∀ A1, OT G F H od v A1 → A1 a ∧ ∀ A2, Cut A A1 A2 → ∃ A1', OT G F (upd H a o) od' v A1' ∧ (∀ b, A1' b → A1 b ∨ B b) ∧ ∀ b, A1' b → ¬ A2 b) (hB : ∀ b, B b → F b = none) :
    ∃ A', Stt G F (upd H a o) (ρ.set i (some od')) σ A' ∧ ∀ b, A' b → A b ∨ B b := by
  obtain ⟨w, A1, A2, h1, h2, h3, c⟩ := S.sl.at e
  rw [ev] at h1
  cases h1
  obtain ⟨ha, h⟩ := h A1 h2
  obtain ⟨A1', ho, s1, s2⟩ := h A2 c
  have hF : F a = none := S.fr a (c.l ha)
  have le : Le F (upd H a o) := fun b u q => by
    by_cases hb : b = a
    · subst hb; rw [hF] at q; cases q
    · rw [upd_ne hb]; exact S.le b u q
  have h3' : Sl G F (upd H a o) (ρ.set i none) σ A2 := h3.mono (.refl _) fun b z => upd_ne fun q => c.2 b (q ▸ ha) z
  have e0 : (ρ.set i none)[i]? = some none := List.getElem?_set_self (List.getElem?_eq_some_iff.mp e).1
  have h4 := h3'.put e0 ev ho (.mk' A1' A2 fun b z y => s2 b z y)
  rw [List.set_set] at h4
  refine ⟨_, ⟨le, h4, fun b z => ?_⟩, fun b z => ?_⟩
  · rcases z with z | z
    · rcases s1 b z with y | y
      · exact S.fr b (c.l y)
      · exact hB b y
    · exact S.fr b (c.r z)
  · rcases z with z | z
    · rcases s1 b z with y | y
      · exact .inl (c.l y)
      · exact .inr y
    · exact .inl (c.r z)
end
/-! ### x[i] = v, x.append(v) -/
def rSetA : TSet := fun o i v H Q => rSetL o i v H Q ∨ rSetD o i v H Q
theorem set_any {X : Cx} (hu : X.A.units + 1 < cLine) : PSet X rSetA := by
  intro pins s σ H o i v ov iv u Q I ro ri rv h
  rcases h with h | h
  · exact set_list pins s σ H o i v ov iv u Q I ro ri rv h
  · exact set_dict hu pins s σ H o i v ov iv u Q I ro ri rv h
/-- a store into a thing -/
def putIx (od : OD) (ix : D) (v : OD) : Option OD := match od with
  | .l xs => match ix with
    | .int k => (ixN xs.length k).map fun j => .l (xs.set j v)
    | _ => none
  | .k ks xs => (OD.shs xs).bind fun ds => (keyD ix).bind fun k => v.sh1.bind fun d => if ks.length < sizeLine then some (.k (putD ks ds k d).1 ((putD ks ds k d).2.map .v)) else none
  | _ => none
def slotIs (ρ : Env) (i : Nat) : Bool := (ρ[i]?.join).isSome
def zSetIx (i : Nat) (fv fi : M OD) : SM := fun ρ => (fv ρ).bind fun v ρ1 => if slotIs ρ1 i then (fi ρ1).bind fun ix ρ2 => match ix, ρ2[i]?.join with
  | .v x, some od => match putIx od x v with
    | some od' => .ok .nx (ρ2.set i (some od'))
    | none => .stuck
  | _, _ => .stuck else .stuck
def zApp (i : Nat) (fv : M OD) : SM := fun ρ => match ρ[i]?.join with
  | some (.l _) => (fv ρ).bind fun v ρ1 => match ρ1[i]?.join with
    | some (.l xs) => if xs.length < sizeLine then .ok .nx (ρ1.set i (some (.l (xs ++ [v])))) else .stuck
    | _ => .stuck
  | _ => .stuck
section
variable {G : Gx} {W : WX} {pn : List Nat} {F F' F1 F2 F3 H H' H1 H2 H3 : Hp} {A A' A1 A2 A3 B : AS} {ρ ρ' κ : Env} {σ ς : St} {X : Cx} {st : Stmt}
theorem join_some {ρ : Env} {i : Nat} {od : OD} (h : ρ[i]?.join = some od) : ρ[i]? = some (some od) := by
  cases e : ρ[i]? with
  | none => rw [e] at h; cases h
  | some y => rw [e] at h; simp only [Option.join_some] at h; rw [h]
/-- the stack's top goes into the slot's object -/
theorem putIx_run {i : Nat} {od od' v : OD} {ix : D} {x o iv : V} {Q : Hp → Prop} (S : Stt G F H (some v :: ρ) (some x :: σ) A) (e : ρ[i]? = some (some od)) (eo : σ[i]? = some (some o)) (hi : Rep G F ix iv) (hp : putIx od ix v = some od')
    (q : ∀ H' A', Go false F H A F H' A' → Stt G F H' (ρ.set i (some od')) σ A' → Q H') : rSetA o iv x H Q := by
  obtain ⟨B, A0, hv, S0, c0, hB⟩ := S.pop
  have goOf : ∀ {a : Addr} {u : HO} {A'' : AS}, A0 a → (∀ b, A'' b → A0 b ∨ B b) → Go false F H A F (upd H a u) A'' := fun {a u A''} ha s =>
    ⟨.refl _, fun b w z n => by
      have : b ≠ a := fun y => n ⟨rfl, y ▸ c0.r ha⟩
      rw [upd_ne this]; exact z, fun b z => .inl ((s b z).elim (fun y => c0.r y) fun y => c0.l y), fun _ _ z => .inl z⟩
  have hsl := S0.sl.at e
  obtain ⟨o', Ai, Aj, h1, hod, _, ci⟩ := hsl
  rw [eo] at h1
  cases h1
  cases od with
  | l xs =>
    simp only [putIx] at hp
    cases ix <;> simp only at hp <;> try cases hp
    rename_i k
    simp only [Rep] at hi
    subst hi
    cases q1 : ixN xs.length k with
    | none => rw [q1] at hp; cases hp
    | some j =>
      rw [q1] at hp; cases hp
      simp only [OT] at hod
      obtain ⟨a, vs, C, rfl, ha, hots, cC⟩ := hod
      have hlen : vs.length = xs.length := hots.len
      have hj := (ixN_seq q1).2.1
      left
      refine ⟨a, vs, k, j, rfl, rfl, ha, by rw [hlen]; exact q1, ?_⟩
      obtain ⟨A', S', sub⟩ := S0.write (i := i) (a := a) (o := .lst (vs.set j x)) (od' := .l (xs.set j v)) (B := B) e eo (fun A1 ho => by
        simp only [OT] at ho
        obtain ⟨a2, vs2, C2, ea, ha2, hots2, cC2⟩ := ho
        cases ea
        rw [ha] at ha2
        cases ha2
        refine ⟨cC2.l rfl, fun A2 cA => ?_⟩
        have ex : xs[j]? = some xs[j] := List.getElem?_eq_getElem hj
        obtain ⟨w, D1, D2, _, _, cD, back⟩ := hots2.at ex
        have hBA : ∀ b, B b → ¬ A0 b := c0.2
        have hax : ∀ b, D2 b → b ≠ a := fun b z y => cC2.2 b y (cD.r z)
        refine ⟨fun b => b = a ∨ (B b ∨ D2 b), ?_, fun b z => ?_, fun b z y => ?_⟩
        · simp only [OT]
          refine ⟨a, _, fun b => B b ∨ D2 b, rfl, upd_same, ?_, .mk' _ _ fun b z y => ?_⟩
          · refine back F (upd H a _) v x B _ (.refl _) (fun b z => upd_ne (hax b z)) ?_ (.mk' _ _ fun b z y => hBA b z (cA.l (cC2.r (cD.r y))))
            exact hv.mono (.refl _) fun b z => upd_ne fun y => hBA b z (cA.l (cC2.l y))
          · subst z
            rcases y with y | y
            · exact hBA _ y (cA.l (cC2.l rfl))
            · exact hax _ y rfl
        · rcases z with z | z | z
          · exact .inl (cC2.l z)
          · exact .inr z
          · exact .inl (cC2.r (cD.r z))
        · rcases z with z | z | z
          · exact cA.2 b (cC2.l z) y
          · exact hBA b z (cA.r y)
          · exact cA.2 b (cC2.r (cD.r z)) y) hB
      exact q _ A' (goOf (ci.l (cC.l rfl)) sub) S'
  | k ks xs =>
    simp only [putIx] at hp
    cases q1 : OD.shs xs with
    | none => rw [q1] at hp; cases hp
    | some ds =>
      rw [q1] at hp
      simp only [Option.bind_some] at hp
      cases q2 : keyD ix with
      | none => rw [q2] at hp; cases hp
      | some ky =>
        rw [q2] at hp
        simp only [Option.bind_some] at hp
        cases v with
        | v d =>
          simp only [OD.sh1, Option.bind_some] at hp
          split at hp
          · rename_i hlt
            cases hp
            simp only [OT] at hod hv
            obtain ⟨a, kvs, C, rfl, ha, hk, hots, cC⟩ := hod
            have hr := hots.sh q1
            have hv' := hv.1
            obtain ⟨p1, p2⟩ := putK_rep (k := ky) hk hr hv'
            have : iv = kV ky := (hi.b (Le.refl F)).key q2
            subst this
            right
            refine ⟨a, _, rfl, .inl ⟨kvs, ky, ha, rfl, by rw [← hk, List.length_map] at hlt; exact hlt, rfl⟩, ?_⟩
            obtain ⟨A', S', sub⟩ := S0.write (i := i) (a := a) (o := .dK (putK kvs ky x)) (od' := .k (putD ks ds ky d).1 ((putD ks ds ky d).2.map .v)) (B := B) e eo (fun A1 ho => by
              simp only [OT] at ho
              obtain ⟨a2, kvs2, C2, ea, ha2, hk2, hots2, cC2⟩ := ho
              cases ea
              refine ⟨cC2.l rfl, fun A2 cA => ⟨fun b => b = a, ?_, fun b z => .inl (cC2.l z), fun b z y => cA.2 b (cC2.l z) y⟩⟩
              simp only [OT]
              exact ⟨a, _, fun _ => False, rfl, upd_same, p1, ots_v p2, .nil_r fun _ z => z⟩) hB
            exact q _ A' (goOf (ci.l (cC.l rfl)) sub) S'
          · cases hp
        | _ => simp [OD.sh1] at hp
  | _ => simp [putIx] at hp
theorem z_setIx {i : Nat} {p p' : Bool} {fv fi : M OD} (h : PS X st (tAsg (TX G W p fv) (gSub (tVar i) (TX G W p' fi) rSetA))) : SS X G W pn st (zSetIx i fv fi) := PS.of h fun D σ H q => by
  obtain ⟨F, ρ, A, S, q⟩ := q
  unfold zSetIx at q
  refine TX.then S q fun v ρ1 F1 H1 x A1 e1 g1 S1 q1 => ?_
  by_cases hs : slotIs ρ1 i = true
  · rw [if_pos hs] at q1
    have : ∃ o, σ[i]? = some (some o) := by
      cases q0 : ρ1[i]?.join with
      | none => rw [slotIs, q0] at hs; cases hs
      | some od =>
        obtain ⟨A2, S2, _⟩ := S1.dropTop
        obtain ⟨o, _, _, h1, _⟩ := S2.sl.at (join_some q0)
        exact ⟨o, h1⟩
    obtain ⟨o, eo⟩ := this
    refine ⟨o, eo, ?_⟩
    refine ⟨F1, ρ1, A1, [some v], [some x], S1, rfl, ?_⟩
    cases e2 : fi ρ1 with
    | stuck => rw [e2] at q1; exact q1.elim
    | exc y ρ2 =>
      rw [e2] at q1
      intro F' H' A' cls d g S' xr
      obtain ⟨A'', S'', sub⟩ := Stt.dropTop (show Stt G F' H' (some v :: ρ2) (some x :: σ) A' from S')
      exact q1 F' H' σ A'' cls d (g.less sub) .refl S'' xr
    | ok ix ρ2 =>
      rw [e2] at q1
      simp only [Out.bind_ok] at q1
      intro F2 H2 iv A2 g2 S2
      split at q1
      · rename_i xd od e3
        obtain ⟨hr, S3⟩ := Stt.pop_v (show Stt G F2 H2 (some (.v xd) :: (some v :: ρ2)) (some iv :: (some x :: σ)) A2 from S2)
        cases e4 : putIx od xd v with
        | none => rw [e4] at q1; exact q1.elim
        | some od' =>
          rw [e4] at q1
          exact putIx_run S3 (join_some e3) eo hr e4 fun H' A' g' S' => q1 F2 H' σ A' ((g2.trans g').imp fun z => by cases z) .refl S'
      · exact q1.elim
  · rw [if_neg hs] at q1; exact q1.elim
theorem app_run {i : Nat} {xs : List OD} {v : OD} {x o : V} {Q : V → Hp → Prop} (S : Stt G F H (some v :: ρ) (some x :: σ) A) (e : ρ[i]? = some (some (.l xs))) (eo : σ[i]? = some (some o)) (hz : xs.length < sizeLine)
    (q : ∀ H' A', Go false F H A F H' A' → Stt G F H' (ρ.set i (some (.l (xs ++ [v])))) σ A' → Q .non H') : rAppend o [x] H Q := by
  obtain ⟨B, A0, hv, S0, c0, hB⟩ := S.pop
  obtain ⟨o', Ai, Aj, h1, hod, _, ci⟩ := S0.sl.at e
  rw [eo] at h1
  cases h1
  simp only [OT] at hod
  obtain ⟨a, vs, C, rfl, ha, hots, cC⟩ := hod
  have hlen : vs.length = xs.length := hots.len
  refine ⟨a, vs, x, rfl, rfl, ha, by omega, ?_⟩
  obtain ⟨A', S', sub⟩ := S0.write (i := i) (a := a) (o := .lst (vs ++ [x])) (od' := .l (xs ++ [v])) (B := B) e eo (fun A1 ho => by
    simp only [OT] at ho
    obtain ⟨a2, vs2, C2, ea, ha2, hots2, cC2⟩ := ho
    cases ea
    rw [ha] at ha2
    cases ha2
    refine ⟨cC2.l rfl, fun A2 cA => ?_⟩
    refine ⟨fun b => b = a ∨ (C2 b ∨ B b), ?_, fun b z => ?_, fun b z y => ?_⟩
    · simp only [OT]
      refine ⟨a, _, fun b => C2 b ∨ B b, rfl, upd_same, ?_, .mk' _ _ fun b z y => ?_⟩
      · refine OTs.snoc (hots2.mono (.refl _) fun b z => upd_ne fun y => cC2.2 b y z) (hv.mono (.refl _) fun b z => upd_ne fun y => c0.2 b z (cA.l (cC2.l y))) (.mk' _ _ fun b z y => c0.2 b y (cA.l (cC2.r z)))
      · subst z
        rcases y with y | y
        · exact cC2.2 _ rfl y
        · exact c0.2 _ y (cA.l (cC2.l rfl))
    · rcases z with z | z | z
      · exact .inl (cC2.l z)
      · exact .inl (cC2.r z)
      · exact .inr z
    · rcases z with z | z | z
      · exact cA.2 b (cC2.l z) y
      · exact cA.2 b (cC2.r z) y
      · exact c0.2 b z (cA.r y)) hB
  refine q _ A' ⟨.refl _, fun b w z n => ?_, fun b z => .inl ((sub b z).elim (fun y => c0.r y) fun y => c0.l y), fun _ _ z => .inl z⟩ S'
  have : b ≠ a := fun y => n ⟨rfl, y ▸ c0.r (ci.l (cC.l rfl))⟩
  rw [upd_ne this]; exact z
theorem z_app {i : Nat} {p : Bool} {fv : M OD} (hG : G.K = X.K) (h : PS X st (tDrop (tBM X.K "list" rAppend (tVar i) (tCons (TX G W p fv) tNil)))) : SS X G W pn st (zApp i fv) := PS.of h fun D σ H q => by
  obtain ⟨F, ρ, A, S, q⟩ := q
  unfold zApp at q
  split at q
  · rename_i ys e0
    obtain ⟨o, A1, A2, h1, h2, _⟩ := S.sl.at (join_some e0)
    refine ⟨o, h1, ?_⟩
    have hty : tyV X.K "list" o H := by
      simp only [OT] at h2
      obtain ⟨a, vs, A', rfl, h3, _⟩ := h2
      exact .inl ⟨rfl, vs, .of h3⟩
    refine ⟨hty, ?_⟩
    refine TX.then S q fun v ρ1 F1 H1 x A1 e1 g1 S1 q1 => ?_
    split at q1
    · rename_i xs e3
      split at q1
      · rename_i hz
        exact app_run (Q := fun _ H1 => D.nx σ H1) S1 (join_some e3) h1 hz fun H' A' g' S' => q1 F1 H' σ A' g' .refl S'
      · exact q1.elim
    · exact q1.elim
  · exact q.elim
end
/-! ### comprehensions -/
def wipeE (ρ : Env) : List Nat → Env
  | [] => ρ
  | v :: vs => (wipeE ρ vs).set v none
/-- the turns of a comprehension: what is made so far is data -/
def cLoop (tg : Tgt) (vs : List Nat) (c : M Bool) (e : M OD) : List D → List D → Env → Out (List D)
  | [], acc, ρ => .ok acc ρ
  | d :: ds, acc, ρ => match tg.put d (wipeE ρ vs) with
    | some ρ1 => match c ρ1 with
      | .ok true ρ2 => match e ρ2 with
        | .ok od ρ3 => if acc.length < sizeLine then cLoop tg vs c e ds (acc ++ [od.fz]) (wipeE ρ3 vs) else .stuck
        | _ => .stuck
      | .ok false ρ2 => cLoop tg vs c e ds acc (wipeE ρ2 vs)
      | _ => .stuck
    | none => .stuck
def bYes : M Bool := fun ρ => .ok true ρ
def mComp (it : M (List D)) (tg : Tgt) (vs : List Nat) (c : M Bool) (e : M OD) : M OD := fun ρ => (it ρ).bind fun ds ρ1 => (cLoop tg vs c e ds [] (wipeE ρ1 vs)).bind fun acc ρ2 => .ok (.l (acc.map .v)) ρ2
/-- nothing is wished of exceptions -/
abbrev W0 : WX := fun _ _ _ _ => False
section
variable {G : Gx} {W : WX} {F F' F1 F2 F3 H H' H1 H2 H3 : Hp} {A A' A1 A2 A3 B : AS} {ρ ρ' κ : Env} {σ ς : St} {X : Cx}
theorem wipe_stt : ∀ {vs : List Nat} {σ' : St} {A : AS}, Stt G F H (κ ++ ρ) (ς ++ σ') A → ς.length = κ.length → ∃ A', Stt G F H (κ ++ wipeE ρ vs) (ς ++ wipe σ' vs) A' ∧ ∀ a, A' a → A a
  | [], σ', A, S, hl => ⟨A, S, fun _ z => z⟩
  | v :: vs, σ', A, S, hl => by
    obtain ⟨A1, S1, s1⟩ := wipe_stt (vs := vs) S hl
    obtain ⟨A2, S2, s2⟩ := S1.sl.drop (i := κ.length + v)
    rw [setKap] at S2
    by_cases hv : v < (wipeE ρ vs).length
    · have e0 : (κ ++ (wipeE ρ vs).set v none)[κ.length + v]? = some none := getKap (List.getElem?_set_self hv)
      have S3 := S2.free (x := none) e0
      have : (ς ++ wipe σ' vs).set (κ.length + v) none = ς ++ (wipe σ' vs).set v none := by rw [← hl, List.set_append_right _ _ (by omega)]; simp
      rw [this] at S3
      exact ⟨A2, ⟨S1.le, S3, fun a z => S1.fr a (s2 a z)⟩, fun a z => s1 a (s2 a z)⟩
    · have l1 := S1.sl.len
      simp only [List.length_append] at l1
      have e1 : (wipeE ρ vs).set v none = wipeE ρ vs := List.set_eq_of_length_le (by omega)
      have e2 : (wipe σ' vs).set v none = wipe σ' vs := List.set_eq_of_length_le (by omega)
      refine ⟨A1, ?_, s1⟩
      show Stt G F H (κ ++ (wipeE ρ vs).set v none) (ς ++ (wipe σ' vs).set v none) A1
      rw [e1, e2]; exact S1
theorem wipe_get (σ : St) (j : Nat) : ∀ vs : List Nat, (wipe σ vs)[j]? = if j ∈ vs then σ[j]?.map fun _ => none else σ[j]?
  | [] => by simp [wipe]
  | v :: vs => by
    unfold wipe
    by_cases hj : v = j
    · subst hj
      by_cases hv : v < (wipe σ vs).length
      · rw [List.getElem?_set_self hv, if_pos List.mem_cons_self]
        rw [wipe_length] at hv
        rw [List.getElem?_eq_getElem hv]; rfl
      · rw [List.getElem?_eq_none (by simpa using hv), if_pos List.mem_cons_self]
        rw [wipe_length] at hv
        rw [List.getElem?_eq_none (by omega)]; rfl
    · rw [List.getElem?_set_ne hj, wipe_get σ j vs]
      simp only [List.mem_cons]
      by_cases h : j ∈ vs
      · rw [if_pos h, if_pos (.inr h)]
      · rw [if_neg h, if_neg (by rintro (z | z); exact hj z.symm; exact h z)]
theorem wipe_set {σ : St} {i : Nat} {x : Option V} {vs : List Nat} (h : i ∈ vs) : wipe (σ.set i x) vs = wipe σ vs := by
  apply List.ext_getElem?
  intro j
  rw [wipe_get, wipe_get]
  by_cases hj : i = j
  · subst hj
    rw [if_pos h, if_pos h]
    by_cases hi : i < σ.length
    · rw [List.getElem?_set_self hi, List.getElem?_eq_getElem hi]; rfl
    · rw [List.getElem?_eq_none (by simpa using hi), List.getElem?_eq_none (by omega)]
  · rw [List.getElem?_set_ne hj]
theorem wipe_wipe {σ : St} {vs : List Nat} : wipe (wipe σ vs) vs = wipe σ vs := by
  apply List.ext_getElem?
  intro j
  rw [wipe_get, wipe_get]
  by_cases h : j ∈ vs
  · rw [if_pos h, if_pos h]; cases σ[j]? <;> rfl
  · rw [if_neg h, if_neg h]
theorem Stt.setvK {d : D} {v : V} {i : Nat} (S : Stt G F H (κ ++ ρ) (ς ++ σ) A) (hl : ς.length = κ.length) (h : Rep G F d v) (hi : i < ρ.length) : ∃ A', Stt G F H (κ ++ ρ.set i (some (.v d))) (ς ++ σ.set i (some v)) A' ∧ ∀ a, A' a → A a := by
  obtain ⟨A', S', sub⟩ := S.setv (i := κ.length + i) h (by simp; omega)
  rw [setKap] at S'
  have : (ς ++ σ).set (κ.length + i) (some v) = ς ++ σ.set i (some v) := by rw [← hl, List.set_append_right _ _ (by omega)]; simp
  rw [this] at S'
  exact ⟨A', S', sub⟩
theorem names_runK : ∀ {is : List Nat} {ds : List D} {us : List V} {ρ ρ1 : Env} {σ : St} {A : AS} {vs : List Nat} {Q : St → Hp → Prop}, ς.length = κ.length → Stt G F H (κ ++ ρ) (ς ++ σ) A → Reps G F ds us → setAll is ds ρ = some ρ1 → (∀ i ∈ is, i ∈ vs) →
    (∀ σ' A', Stt G F H (κ ++ ρ1) (ς ++ σ') A' → (∀ a, A' a → A a) → wipe σ' vs = wipe σ vs → Q σ' H) → gNames is us σ H Q
  | [], ds, us, ρ, ρ1, σ, A, vs, Q, hl, S, r, e, hp, q => by
    cases ds with
    | nil =>
      simp only [setAll] at e; cases e
      simp only [Reps] at r
      exact ⟨r, q σ A S (fun _ h => h) rfl⟩
    | cons d ds => simp [setAll] at e
  | i :: is, ds, us, ρ, ρ1, σ, A, vs, Q, hl, S, r, e, hp, q => by
    cases ds with
    | nil => simp [setAll] at e
    | cons d ds =>
      simp only [setAll] at e
      split at e
      · rename_i hi
        simp only [Reps] at r
        obtain ⟨v, vr, rfl, r1, r2⟩ := r
        obtain ⟨A1, S1, sub⟩ := S.setvK hl r1 hi
        refine ⟨v, vr, rfl, ?_⟩
        exact names_runK hl S1 r2 e (fun j hj => hp j (List.mem_cons_of_mem _ hj)) fun σ' A' S' s' p' => q σ' A' S' (fun a ha => sub a (s' a ha)) (p'.trans (wipe_set (hp i List.mem_cons_self)))
      · cases e
theorem setAll_len : ∀ {is : List Nat} {ds : List D} {ρ ρ1 : Env}, setAll is ds ρ = some ρ1 → ds.length = is.length
  | [], [], _, _, _ => rfl
  | [], _ :: _, _, _, e => by simp [setAll] at e
  | _ :: _, [], _, _, e => by simp [setAll] at e
  | i :: is, d :: ds, ρ, ρ1, e => by
    simp only [setAll] at e
    split at e
    · simp [setAll_len e]
    · cases e
/-- the target's slots are the block's own -/
theorem tgt_wipe {tg : Tgt} {d : D} {v : V} {ρ1 : Env} {vs : List Nat} {Q : St → Hp → Prop} (hl : ς.length = κ.length) (S : Stt G F H (κ ++ ρ) (ς ++ σ) A) (r : Rep G F d v) (e : tg.put d ρ = some ρ1) (hp : ∀ i ∈ tg.ix, i ∈ vs)
    (q : ∀ σ' A', Stt G F H (κ ++ ρ1) (ς ++ σ') A' → (∀ a, A' a → A a) → wipe σ' vs = wipe σ vs → Q σ' H) : tg.t G.K v σ H Q := by
  cases tg with
  | name i =>
    simp only [Tgt.put] at e
    split at e
    · rename_i hi
      cases e
      obtain ⟨A1, S1, sub⟩ := S.setvK hl r hi
      exact q _ A1 S1 sub (wipe_set (hp i (by simp [Tgt.ix])))
    · cases e
  | tup is =>
    cases d with
    | tup ds =>
      simp only [Tgt.put] at e
      simp only [Rep] at r
      obtain ⟨a, us, rfl, h1, h2⟩ := r
      refine ⟨a, us, rfl, S.le.sqt h1, by rw [h2.len, setAll_len e], ?_⟩
      exact names_runK hl S h2 e hp q
    | _ => simp [Tgt.put] at e
/-- one more item -/
theorem ot_snoc {acc : List D} {d : D} {y : V} {D' : Addr} {us : List V} (h : Reps G F acc us) (hy : Rep G F d y) : OT G F (upd H D' (.lst (us ++ [y]))) (.l ((acc ++ [d]).map .v)) (.ref D') fun b => b = D' :=
  ot_lv (h.append (.one hy)) upd_same
theorem Sl.agree : ∀ {ρ : Env} {σ σ2 : St} {A : AS}, Sl G F H ρ σ A → σ2.length = σ.length → (∀ j : Nat, ρ[j]? = some none ∨ σ2[j]? = σ[j]?) → Sl G F H ρ σ2 A
  | [], σ, σ2, A, h, hl, k => by
    simp only [Sl] at h ⊢
    obtain ⟨rfl, hn⟩ := h
    exact ⟨List.eq_nil_of_length_eq_zero (by simpa using hl), hn⟩
  | x :: ρ, σ, σ2, A, h, hl, k => by
    cases σ with
    | nil => cases x <;> simp only [Sl] at h <;> (first | (obtain ⟨_, _, e, _⟩ := h; cases e) | (obtain ⟨_, _, _, _, e, _⟩ := h; cases e))
    | cons y σ =>
      cases σ2 with
      | nil => simp at hl
      | cons y2 σ2 =>
        have hl' : σ2.length = σ.length := by simpa using hl
        have k' : ∀ j : Nat, ρ[j]? = some none ∨ σ2[j]? = σ[j]? := fun j => by simpa using k (j + 1)
        cases x with
        | none =>
          simp only [Sl] at h ⊢
          obtain ⟨z, r, e, h⟩ := h
          injection e with e1 e2; subst e1 e2
          exact ⟨_, _, rfl, Sl.agree h hl' k'⟩
        | some od =>
          simp only [Sl] at h ⊢
          obtain ⟨v, r, B1, B2, e, ho, h, c⟩ := h
          injection e with e1 e2; subst e1 e2
          have k0 := k 0
          simp at k0
          subst k0
          exact ⟨_, _, _, _, rfl, ho, Sl.agree h hl' k', c⟩
theorem wipeE_len (ρ : Env) : ∀ vs : List Nat, (wipeE ρ vs).length = ρ.length
  | [] => rfl
  | v :: vs => by unfold wipeE; rw [List.length_set, wipeE_len ρ vs]
theorem wipeE_get (ρ : Env) (j : Nat) : ∀ vs : List Nat, (wipeE ρ vs)[j]? = if j ∈ vs then ρ[j]?.map fun _ => none else ρ[j]?
  | [] => by simp [wipeE]
  | v :: vs => by
    have hl : ∀ vs : List Nat, (wipeE ρ vs).length = ρ.length := by
      intro vs
      induction vs with
      | nil => rfl
      | cons v vs ih => unfold wipeE; rw [List.length_set, ih]
    unfold wipeE
    by_cases hj : v = j
    · subst hj
      by_cases hv : v < (wipeE ρ vs).length
      · rw [List.getElem?_set_self hv, if_pos List.mem_cons_self]
        rw [hl] at hv
        rw [List.getElem?_eq_getElem hv]; rfl
      · rw [List.getElem?_eq_none (by simpa using hv), if_pos List.mem_cons_self]
        rw [hl] at hv
        rw [List.getElem?_eq_none (by omega)]; rfl
    · rw [List.getElem?_set_ne hj, wipeE_get ρ j vs]
      simp only [List.mem_cons]
      by_cases h : j ∈ vs
      · rw [if_pos h, if_pos (.inr h)]
      · rw [if_neg h, if_neg (by rintro (z | z); exact hj z.symm; exact h z)]
theorem unwipe {vs : List Nat} (S : Stt G F H (κ ++ wipeE ρ vs) (ς ++ wipe σ vs) A) (hl : ς.length = κ.length) : Stt G F H (κ ++ wipeE ρ vs) (ς ++ σ) A := by
  refine ⟨S.le, S.sl.agree (by simp [wipe_length]) fun j => ?_, S.fr⟩
  have hlen := S.sl.len
  by_cases hj : j < κ.length
  · right
    rw [List.getElem?_append_left (by omega), List.getElem?_append_left (by omega)]
  · rw [List.getElem?_append_right (by omega), List.getElem?_append_right (by omega), List.getElem?_append_right (by omega), hl]
    by_cases hv : (j - κ.length) ∈ vs
    · cases e : ρ[j - κ.length]? with
      | some y => left; rw [wipeE_get, if_pos hv, e]; rfl
      | none =>
        right
        rw [wipe_get, if_pos hv]
        cases e2 : σ[j - κ.length]? with
        | none => rfl
        | some y =>
          exfalso
          simp only [List.length_append, wipe_length] at hlen
          have h1 := (List.getElem?_eq_some_iff.mp e2).1
          have h2 := List.getElem?_eq_none_iff.mp e
          have hl2 := wipeE_len ρ vs
          omega
    · right
      rw [wipe_get, if_neg hv]
/-- the whole walk of a comprehension -/
theorem comp_run {J : It} {P : Hp → Prop} {yv : List V} {tg : Tgt} {vs : List Nat} {pc pe p : Bool} {c : M Bool} {e : M OD} {Q : VK} {F0 H0 : Hp} {A0 : AS} (w : Wk J P yv) {ds : List D} (S : Stt G F H (κ ++ ρ) (ς ++ σ) A) (hl : ς.length = κ.length) (g0 : Go p F0 H0 A0 F H A)
    (hpp : p = true → pc = true ∧ pe = true) (r : Reps G F ds yv) (hP : ∀ F' H', Le F F' → Le F' H' → P H') (hp : ∀ i ∈ tg.ix, i ∈ vs)
    (h : Pst G W p ((cLoop tg vs c e ds [] (wipeE ρ vs)).bind fun acc ρ2 => .ok (.l (acc.map .v)) ρ2) F0 H0 A0 κ ς σ fun od ρ' => ∀ F' H' v A', Go p F0 H0 A0 F' H' A' → Stt G F' H' (some od :: (κ ++ ρ')) (some v :: (ς ++ σ)) A' → Q v H') :
    ∀ D, H D = none → ∃ W' : Nat → Nat → Hp → Prop, (∃ m, W' 0 m (upd H D (.lst []))) ∧ ∀ i m H, W' i m H →
      (J.stop i H ∧ Q (.ref D) H) ∨ (J.go i H ∧ ∃ Nx : Hp → Prop, (∀ H', Nx H' → ∃ m', m' < m ∧ W' (i + 1) m' H') ∧ ∀ x H', J.yld i H x H' → tg.t G.K x (wipe σ vs) H' fun σ2 H2 => wipe σ2 vs = wipe σ vs ∧ TB G W0 pc c σ2 H2 fun b H3 =>
        if b = true then TX G W0 pe e σ2 H3 fun y H4 => ∃ acc, H4 D = some (.lst acc) ∧ acc.length < sizeLine ∧ Nx (upd H4 D (.lst (acc ++ [y]))) else Nx H3) := by
  intro D hD
  have hlen := r.len
  have hD0 : A0 D ∨ H0 D = none := g0.back (.inr hD)
  have hkp : ∀ o, H0 D = some o → ¬ (p = false ∧ A0 D) → False := fun o q n => by
    have := g0.keep D o q n
    rw [hD] at this; cases this
  -- the new list is held on the stack
  let Held : Nat → Hp → Prop := fun i H' => ∃ F' A' acc ρ', Stt G F' H' (some (.l (acc.map .v)) :: (κ ++ wipeE ρ' vs)) (some (.ref D) :: (ς ++ wipe σ vs)) A' ∧ Go p F0 H0 A0 F' H' A' ∧ Le F F' ∧
    Pst G W p ((cLoop tg vs c e (ds.drop i) acc (wipeE ρ' vs)).bind fun acc ρ2 => .ok (.l (acc.map .v)) ρ2) F0 H0 A0 κ ς σ fun od ρ' => ∀ F' H' v A', Go p F0 H0 A0 F' H' A' → Stt G F' H' (some od :: (κ ++ ρ')) (some v :: (ς ++ σ)) A' → Q v H'
  have mkHeld : ∀ {i : Nat} {F1 H1 : Hp} {A1 : AS} {acc : List Vs.D} {ρ1 : Env} {us : List V}, Stt G F1 H1 (κ ++ wipeE ρ1 vs) (ς ++ wipe σ vs) A1 → Reps G F1 acc us → F1 D = none → ¬ A1 D → Go p F0 H0 A0 F1 H1 A1 → Le F F1 →
      Pst G W p ((cLoop tg vs c e (ds.drop i) acc (wipeE ρ1 vs)).bind fun acc ρ2 => .ok (.l (acc.map .v)) ρ2) F0 H0 A0 κ ς σ (fun od ρ' => ∀ F' H' v A', Go p F0 H0 A0 F' H' A' → Stt G F' H' (some od :: (κ ++ ρ')) (some v :: (ς ++ σ)) A' → Q v H') → Held i (upd H1 D (.lst us)) := by
    intro i F1 H1 A1 acc ρ1 us S1 ra f1 n1 g1 le1 h1
    have hne : ∀ a, A1 a → a ≠ D := fun a z q => n1 (q ▸ z)
    have S1' : Stt G F1 (upd H1 D (.lst us)) (κ ++ wipeE ρ1 vs) (ς ++ wipe σ vs) A1 := ⟨fun a o q => by
      by_cases ha : a = D
      · subst ha; rw [f1] at q; cases q
      · rw [upd_ne ha]; exact S1.le a o q, S1.sl.mono (.refl _) fun a z => upd_ne (hne a z), S1.fr⟩
    obtain ⟨A2, S2, h2⟩ := S1'.push (ot_lv ra upd_same) fun a z => by subst z; exact ⟨f1, n1⟩
    refine ⟨F1, A2, acc, ρ1, S2, ⟨g1.le, fun a o q n => ?_, fun a z => ?_, g1.nf⟩, le1, h1⟩
    · by_cases ha : a = D
      · subst ha; exact (hkp o q n).elim
      · rw [upd_ne ha]; exact g1.keep a o q n
    · rcases (h2 a).1 z with rfl | b
      · exact hD0
      · exact g1.sub a b
  have hFD : F D = none := by
    cases q : F D with
    | none => rfl
    | some o => rw [S.le D o q] at hD; cases hD
  refine ⟨fun i m H' => m = yv.length - i ∧ i ≤ yv.length ∧ Held i H', ⟨yv.length, by simp, Nat.zero_le _, ?_⟩, ?_⟩
  · obtain ⟨A1, S1, s1⟩ := wipe_stt (vs := vs) S hl
    refine mkHeld S1 .nil hFD (fun z => ?_) (g0.less s1) (.refl _) h
    obtain ⟨o, q⟩ := S1.sl.there D z
    rw [hD] at q; cases q
  · rintro i m H1 ⟨rfl, hi, F1, A1, acc, ρ1, S1, g1, le1, h1⟩
    have p1 := hP F1 H1 le1 S1.le
    by_cases hlt : i < yv.length
    · right
      have ey : yv[i]? = some yv[i] := List.getElem?_eq_getElem hlt
      have hd : i < ds.length := by omega
      refine ⟨w.go i H1 _ p1 ey, fun H' => yv.length - (i + 1) < yv.length - i ∧ i + 1 ≤ yv.length ∧ Held (i + 1) H', fun H' z => ⟨yv.length - (i + 1), z.1, rfl, z.2⟩, fun x H' y => ?_⟩
      obtain ⟨rfl, rfl⟩ := w.yld i H1 _ x H' p1 ey y
      have rd : Rep G F1 ds[i] yv[i] := by
        obtain ⟨v, e1, e2⟩ := r.get (List.getElem?_eq_getElem hd)
        rw [ey] at e1; cases e1
        exact e2.mono le1
      rw [List.drop_eq_getElem_cons hd] at h1
      simp only [cLoop] at h1
      obtain ⟨A2, S2, s2⟩ := wipe_stt (κ := some (.l (acc.map .v)) :: κ) (ς := some (.ref D) :: ς) (vs := vs) S1 (by simp [hl])
      rw [wipe_wipe] at S2
      cases ep : tg.put ds[i] (wipeE (wipeE ρ1 vs) vs) with
      | none => rw [ep] at h1; exact h1.elim
      | some ρ2 =>
        rw [ep] at h1
        simp only at h1
        have hl' : (some (V.ref D) :: ς).length = (some (OD.l (acc.map .v)) :: κ).length := by simp [hl]
        refine tgt_wipe hl' S2 rd ep hp fun σ2 A3 S3 s3 hw => ⟨by rw [hw, wipe_wipe], ?_⟩
        rw [wipe_wipe] at hw
        refine ⟨F1, ρ2, A3, _, _, S3, hl', ?_⟩
        cases ec : c ρ2 with
        | stuck => rw [ec] at h1; exact h1.elim
        | exc x' ρ3 => rw [ec] at h1; exact h1.elim
        | ok b ρ3 =>
          rw [ec] at h1
          intro F3 H3 A4 g3 S4
          have g13 : Go p F0 H0 A0 F3 H3 A4 := (((g1.less s2).less s3).trans g3).imp fun z => by simp [z, (hpp z).1]
          cases b with
          | false =>
            refine iteF ⟨by omega, by omega, ?_⟩
            obtain ⟨A5, S5, s5⟩ := wipe_stt (vs := vs) S4 hl'
            rw [hw] at S5
            exact ⟨F3, A5, acc, ρ3, S5, g13.less s5, le1.trans g3.le, h1⟩
          | true =>
            refine iteT ⟨F3, ρ3, A4, _, _, S4, hl', ?_⟩
            simp only at h1
            cases ee : e ρ3 with
            | stuck => rw [ee] at h1; exact h1.elim
            | exc x' ρ4 => rw [ee] at h1; exact h1.elim
            | ok od ρ4 =>
              rw [ee] at h1
              simp only at h1
              intro F4 H4 y A5 g4 S5
              split at h1
              · rename_i hz
                obtain ⟨F5, A6, ry, S6, g5, _⟩ := Stt.frz (p := true) S5
                obtain ⟨A7, S7, s7⟩ := wipe_stt (vs := vs) S6 hl'
                rw [hw] at S7
                obtain ⟨B, A8, ho, S8, c8, hB8⟩ := Stt.pop (show Stt G F5 H4 (some (.l (acc.map .v)) :: (κ ++ wipeE ρ4 vs)) (some (.ref D) :: (ς ++ wipe σ vs)) A7 from S7)
                simp only [OT] at ho
                obtain ⟨a, us, C, ea, hu, hots, cC⟩ := ho
                cases ea
                have ra := hots.sh (shs_v acc)
                have hBD : B D := (cC.1 D).2 (.inl rfl)
                have gg : Go p F0 H0 A0 F5 H4 A8 := ((((g13.trans g4).trans g5).less s7).less fun a z => c8.r z).imp fun z => by simp [z, (hpp z).2]
                refine ⟨us, hu, by rw [ra.len]; exact hz, by omega, by omega, ?_⟩
                exact mkHeld S8 (ra.append (.one ry)) (hB8 D hBD) (c8.2 D hBD) gg (le1.trans (g3.le.trans (g4.le.trans g5.le))) h1
              · exact h1.elim
    · left
      have e : i = yv.length := by omega
      subst e
      rw [List.drop_eq_nil_of_le (by omega)] at h1
      refine ⟨w.stop H1 p1, ?_⟩
      refine h1 F1 H1 (.ref D) A1 g1 ?_
      exact unwipe (κ := some (.l (acc.map .v)) :: κ) (ς := some (.ref D) :: ς) S1 (by simp [hl])
variable {e elt tgt iter : Expr} {ifs : List Expr} {scope : Scope} {own : List (Str × Nat)} {pos : Pos}
/-- the walk of a comprehension over a value -/
theorem sx_comp {p pc pe : Bool} {fi : M OD} {tg : Tgt} {fc : M Bool} {fe : M OD} (hG : G.K = X.K) (hc : X.calm = true) (hN : X.N.Nodup) (hi : SX X G W p iter fi) (ok : BlkOk X.N X.env.scope scope own) (hp : ∀ i ∈ tg.ix, i ∈ own.map (·.2))
    (hg : ∀ (s : Shared) (H : Hp) (C : Addr) (cl : List (Str × Addr)) (fp : List Addr), PG (X.blk s H scope (compEnvC scope cl C X.env) fp) tgt (tg.t G.K))
    (ht : ∀ (s : Shared) (H : Hp) (C : Addr) (cl : List (Str × Addr)) (fp : List Addr), PTs (X.blk s H scope (compEnvC scope cl C X.env) fp) ifs (TB G W0 pc fc))
    (he : ∀ (s : Shared) (H : Hp) (C : Addr) (cl : List (Str × Addr)) (fp : List Addr), SX (X.blk s H scope (compEnvC scope cl C X.env) fp) G W0 pe elt fe) (hs : ∀ x, foldedSetIterable iter X.env x = pure x := by intro _; rfl) :
    SX X G W (p && (pc && pe)) (.ListComp elt [⟨tgt, iter, ifs, 0⟩] scope pos) (mComp (zIt fi) tg (own.map (·.2)) fc fe) := PE.of (pe_lc hc hN (pi_any hi) ok hg ht he hs) fun σ H Q q => by
  obtain ⟨F, ρ, A, κ, ς, S, hl, q⟩ := q
  unfold mComp zIt at q
  rw [← hG]
  refine ⟨F, ρ, A, κ, ς, S, hl, ?_⟩
  cases e1 : fi ρ with
  | stuck => rw [e1] at q; exact q
  | exc x ρ' => rw [e1] at q; exact q
  | ok od ρ1 =>
    rw [e1] at q
    simp only [Out.bind_ok] at q
    intro F1 H1 v A1 g1 S1
    obtain ⟨F2, A2, hr, S2, g2, _⟩ := Stt.frz (p := true) S1
    cases e2 : items od.fz with
    | none => rw [e2] at q; exact q.elim
    | some ds =>
      rw [e2] at q
      simp only [Out.bind_ok] at q
      refine any_run S2.le hr e2 fun J P yv w r pp => ?_
      exact comp_run (p := p && (pc && pe)) w S2 hl ((g1.trans g2).imp fun z => by simp only [Bool.and_eq_true] at z; simp [z.1]) (fun z => by simp only [Bool.and_eq_true] at z; exact z.2) r pp hp q
theorem sx_compR1 {p pc pe : Bool} {fi : M OD} {tg : Tgt} {fc : M Bool} {fe : M OD} {e1 : Expr} {q1 q2 : Pos} (hG : G.K = X.K) (hc : X.calm = true) (hN : X.N.Nodup) (hgl : Gl X "range") (hm : X.mg "range" = none) (ha : PA X [e1] (tCons (TX G W p fi) tNil)) (ok : BlkOk X.N X.env.scope scope own) (hp : ∀ i ∈ tg.ix, i ∈ own.map (·.2))
    (hg : ∀ (s : Shared) (H : Hp) (C : Addr) (cl : List (Str × Addr)) (fp : List Addr), PG (X.blk s H scope (compEnvC scope cl C X.env) fp) tgt (tg.t G.K))
    (ht : ∀ (s : Shared) (H : Hp) (C : Addr) (cl : List (Str × Addr)) (fp : List Addr), PTs (X.blk s H scope (compEnvC scope cl C X.env) fp) ifs (TB G W0 pc fc))
    (he : ∀ (s : Shared) (H : Hp) (C : Addr) (cl : List (Str × Addr)) (fp : List Addr), SX (X.blk s H scope (compEnvC scope cl C X.env) fp) G W0 pe elt fe) (hs : ∀ x, foldedSetIterable (.Call (.Name "range" q1) [e1] [] q2) X.env x = pure x := by intro _; rfl)
    (hst : starEach [e1] X.env = [(false, eval e1 X.env)] := by rfl) :
    SX X G W (p && (pc && pe)) (.ListComp elt [⟨tgt, .Call (.Name "range" q1) [e1] [] q2, ifs, 0⟩] scope pos) (mComp (zRng1 fi) tg (own.map (·.2)) fc fe) := PE.of (pe_lc hc hN (pi_range1 hgl hm ha hst) ok hg ht he hs) fun σ H Q q => by
  obtain ⟨F, ρ, A, κ, ς, S, hl, q⟩ := q
  unfold mComp zRng1 at q
  refine ⟨F, ρ, A, κ, ς, S, hl, ?_⟩
  cases e1 : fi ρ with
  | stuck => rw [e1] at q; exact q
  | exc x ρ' => rw [e1] at q; exact q
  | ok od ρ1 =>
    rw [e1] at q
    simp only [Out.bind_ok] at q
    intro F1 H1 v A1 g1 S1
    split at q
    · rename_i n
      split at q
      · rename_i hn
        obtain ⟨hr, S2⟩ := Stt.pop_v S1
        simp only [Rep] at hr
        simp only [Out.bind_ok] at q
        refine ⟨n, by rw [hr], hn.1, hn.2, ?_⟩
        exact comp_run (p := p && (pc && pe)) wk_rng S2 hl (g1.imp fun z => by simp only [Bool.and_eq_true] at z; simp [z.1]) (fun z => by simp only [Bool.and_eq_true] at z; exact z.2) reps_rng (fun _ _ _ _ => trivial) hp q
      · exact q.elim
    · exact q.elim
theorem pts_yes : PTs X [] (TB G W0 true bYes) := ⟨fun pins s σ H Q I h => pts_nil.run pins s σ H Q I (by
  obtain ⟨F, ρ, A, κ, ς, S, hl, q⟩ := h
  exact q F H A .refl S)⟩
end
end Vs
/-! VsI: chains of comparisons, truth values, choices; defs by name, the head. -/
namespace Vs
open PySem L2
/-! ### a op b op' c, of ints -/
def mChain (g g' : Int → Int → Bool) (fa fb fc : M OD) : M Bool := fun ρ => (fa ρ).bind fun x ρ1 => (fb ρ1).bind fun y ρ2 => match x, y with
  | .v (.int i), .v (.int j) => if g i j then (fc ρ2).bind fun z ρ3 => match z with
    | .v (.int k) => .ok (g' j k) ρ3
    | _ => .stuck
    else .ok false ρ2
  | _, _ => .stuck
section
variable {G : Gx} {W : WX} {F F' F1 F2 F3 H H' H1 H2 H3 : Hp} {A A' A1 A2 A3 : AS} {ρ ρ' κ : Env} {σ ς : St} {X : Cx} {e a b c : Expr} {pos : Pos}
theorem chain_run {g g' : Int → Int → Bool} {pa pb pc : Bool} {fa fb fc : M OD} {Q : Bool → Hp → Prop} (h : TB G W (pa && (pb && pc)) (mChain g g' fa fb fc) σ H Q) :
    tTest (tChain (rI0 fun i j => .bl (g i j)) (rI0 fun i j => .bl (g' i j)) (TX G W pa fa) (TX G W pb fb) (TX G W pc fc)) σ H Q := by
  obtain ⟨F, ρ, A, κ, ς, S, hl, h⟩ := h
  refine ⟨F, ρ, A, κ, ς, S, hl, ?_⟩
  unfold mChain at h
  cases e1 : fa ρ with
  | stuck => rw [e1] at h; exact h
  | exc x ρ' => rw [e1] at h; exact h
  | ok x ρ1 =>
    rw [e1] at h
    simp only [Out.bind_ok] at h
    intro F1 H1 v A1 g1 S1
    refine ⟨F1, ρ1, A1, some x :: κ, some v :: ς, S1, by simp [hl], ?_⟩
    cases e2 : fb ρ1 with
    | stuck => rw [e2] at h; exact h
    | exc x2 ρ' =>
      rw [e2] at h
      intro F' H' A' cls d g2 S' xr
      obtain ⟨A3, S3, sub⟩ := Stt.dropTop (show Stt G F' H' (some x :: (κ ++ ρ')) (some v :: (ς ++ σ)) A' from S')
      exact h F' H' A3 cls d (((g1.trans g2).imp fun z => by cases z).less sub) S3 xr
    | ok y ρ2 =>
      rw [e2] at h
      simp only [Out.bind_ok] at h
      intro F2 H2 u A2 g2 S2
      split at h
      · rename_i i j
        obtain ⟨r2, S3⟩ := S2.pop_v
        obtain ⟨r1, S4⟩ := Stt.pop_v (show Stt G F2 H2 (some (.v (.int i)) :: (κ ++ ρ2)) (some v :: (ς ++ σ)) A2 from S3)
        simp only [Rep] at r1 r2
        subst r1 r2
        refine ⟨i, j, rfl, rfl, _, rfl, ?_⟩
        cases hg : g i j with
        | false =>
          rw [hg] at h
          refine iteF ⟨false, rfl, ?_⟩
          exact h F2 H2 A2 ((g1.trans g2).imp fun z => by simp only [Bool.and_eq_true] at z; simp [z.1, z.2.1]) S4
        | true =>
          rw [hg] at h
          refine iteT ⟨F2, ρ2, A2, κ, ς, S4, hl, ?_⟩
          simp only [if_true] at h
          cases e3 : fc ρ2 with
          | stuck => rw [e3] at h; exact h
          | exc x2 ρ' =>
            rw [e3] at h
            exact fun F' H' A' cls d g3 S' xr => h F' H' A' cls d (((g1.trans g2).trans g3).imp fun z => by cases z) S' xr
          | ok z ρ3 =>
            rw [e3] at h
            simp only [Out.bind_ok] at h
            intro F3 H3 t A3 g3 S5
            split at h
            · rename_i k
              obtain ⟨r3, S6⟩ := S5.pop_v
              simp only [Rep] at r3
              subst r3
              refine ⟨j, k, rfl, rfl, _, rfl, ?_⟩
              exact h F3 H3 A3 (((g1.trans g2).trans g3).imp fun z => by simp only [Bool.and_eq_true] at z; simp [z.1, z.2.1, z.2.2]) S6
            · exact h.elim
      · exact h.elim
theorem sb_chain {op op' : CmpOp} {g g' : Int → Int → Bool} {pa pb pc : Bool} {fa fb fc : M OD} (ho : OpR X (compareOp op) (rI0 fun i j => .bl (g i j))) (ho' : OpR X (compareOp op') (rI0 fun i j => .bl (g' i j))) (ha : SX X G W pa a fa) (hb : SX X G W pb b fb) (hc : SX X G W pc c fc)
    (hm : lastMarks [op, op'] [b, c] = false := by with_unfolding_all rfl) : SB X G W (pa && (pb && pc)) (.Compare a [op, op'] [b, c] pos) (mChain g g' fa fb fc) := PT.of (pt_chain ho ho' ha hb hc hm) fun σ H Q h => chain_run h
/-- bools as values -/
theorem TX.mB {p : Bool} {f : M Bool} {Q : VK} (q : TX G W p (mB f) σ H Q) : TB G W p f σ H fun b H1 => Q (.bl b) H1 := by
  obtain ⟨F, ρ, A, κ, ς, S, hl, q⟩ := q
  refine ⟨F, ρ, A, κ, ς, S, hl, ?_⟩
  unfold Vs.mB at q
  cases e1 : f ρ with
  | stuck => rw [e1] at q; exact q
  | exc x ρ' => rw [e1] at q; exact q
  | ok b ρ' =>
    rw [e1] at q
    simp only [Out.bind_ok] at q
    exact fun F' H' A' g S' => q F' H' (.bl b) A' g (S'.push_v (by simp only [Rep]))
theorem TX.asBb {p : Bool} {f : M OD} {Q : VK} (q : TX G W p (Vs.mB (Vs.asB f)) σ H Q) : TX G W p f σ H fun v H1 => ∃ b, v = .bl b ∧ Q (.bl b) H1 := TX.asB (TX.mB q)
/-- a test that is read as a value -/
abbrev SV (X : Cx) (G : Gx) (W : WX) (p : Bool) (e : Expr) (f : M Bool) : Prop := SX X G W p e (mB f)
/-- a value that is a bool -/
theorem sv_of {p : Bool} {f : M OD} (h : SX X G W p e f) : SV X G W p e (asB f) := PE.of h fun σ H Q q => by
  refine (TX.asBb q).mono ?_
  rintro v H ⟨b, rfl, q⟩
  exact q
theorem sv_chain {op op' : CmpOp} {g g' : Int → Int → Bool} {pa pb pc : Bool} {fa fb fc : M OD} (ho : OpR X (compareOp op) (rI0 fun i j => .bl (g i j))) (ho' : OpR X (compareOp op') (rI0 fun i j => .bl (g' i j))) (ha : SX X G W pa a fa) (hb : SX X G W pb b fb) (hc : SX X G W pc c fc)
    (hm : lastMarks [op, op'] [b, c] = false := by with_unfolding_all rfl) : SV X G W (pa && (pb && pc)) (.Compare a [op, op'] [b, c] pos) (mChain g g' fa fb fc) := PE.of (pe_chain ho ho' ha hb hc hm) fun σ H Q h => by
  have h2 := chain_run (TX.mB h)
  unfold tTest at h2
  have mono : ∀ {Q Q' : VK}, (∀ v H, Q v H → Q' v H) → tChain (rI0 fun i j => .bl (g i j)) (rI0 fun i j => .bl (g' i j)) (TX G W pa fa) (TX G W pb fb) (TX G W pc fc) σ H Q → tChain (rI0 fun i j => .bl (g i j)) (rI0 fun i j => .bl (g' i j)) (TX G W pa fa) (TX G W pb fb) (TX G W pc fc) σ H Q' := by
    intro Q Q' k z
    refine TX.mono z fun x H1 z => TX.mono z fun y H2 z => ?_
    obtain ⟨i, j, e1, e2, b, e3, z⟩ := z
    refine ⟨i, j, e1, e2, b, e3, ?_⟩
    cases b with
    | false => exact iteF (k _ _ (by simpa using z))
    | true =>
      refine iteT ?_
      have z := (show TX G W pc fc σ H2 _ by simpa using z)
      refine TX.mono z fun w H3 z => ?_
      obtain ⟨i, j, e1, e2, z⟩ := z
      exact ⟨i, j, e1, e2, k _ _ z⟩
  refine mono ?_ h2
  rintro v H ⟨b, rfl, q⟩
  exact q
variable {rest : List Expr} {p q : Bool} {f g : M Bool}
theorem sv_not (ha : SV X G W p a f) : SV X G W p (.UnaryOp .Not a pos) (bNot f) := PE.of (pe_not ha) fun σ H Q h => by
  have h1 : TB G W (p && true) (fun ρ => (f ρ).bind fun b ρ' => .ok (!b) ρ') σ H fun b H1 => Q (.bl b) H1 := by rw [Bool.and_true]; exact TX.mB h
  have h2 : TB G W p f σ H fun b H1 => Q (.bl !b) H1 := TB.bind (k := fun b ρ' => .ok (!b) ρ') h1 fun b H1 z => TB.pure z
  exact TX.toB h2
where
  TX.toB {p : Bool} {f : M Bool} {Q : Bool → Hp → Prop} {σ : St} {H : Hp} (q : TB G W p f σ H Q) : TX G W p (Vs.mB f) σ H fun v H1 => ∃ b, v = .bl b ∧ Q b H1 := by
    obtain ⟨F, ρ, A, κ, ς, S, hl, q⟩ := q
    refine ⟨F, ρ, A, κ, ς, S, hl, ?_⟩
    unfold Vs.mB
    cases e1 : f ρ with
    | stuck => rw [e1] at q; exact q
    | exc x ρ' => rw [e1] at q; exact q
    | ok b ρ' =>
      rw [e1] at q
      intro F' H' v A' g S'
      obtain ⟨r, S2⟩ := S'.pop_v
      simp only [Rep] at r
      exact ⟨b, r, q F' H' A' g S2⟩
theorem sv_and1 (ha : SV X G W p a f) : SV X G W p (.BoolOp .And [a] pos) f := pe_one ha
theorem sv_or1 (ha : SV X G W p a f) : SV X G W p (.BoolOp .Or [a] pos) f := pe_one ha
theorem sv_and (ha : SV X G W p a f) (hb : SV X G W q (.BoolOp .And (b :: rest) pos) g) : SV X G W (p && q) (.BoolOp .And (a :: b :: rest) pos) (bAnd f g) := PE.of (pe_and ha hb) fun σ H Q h => by
  have h2 : TB G W p f σ H fun c H1 => if c = true then TX G W q (mB g) σ H1 Q else Q (.bl false) H1 := TB.bind (q := q) (k := fun b ρ' => if b then g ρ' else .ok false ρ') (TX.mB h) fun b H1 z => by
    cases b with
    | true =>
      refine iteT ((sv_not.TX.toB (show TB G W q g σ H1 (fun b H1 => Q (.bl b) H1) from by simpa using z)).mono ?_)
      rintro v H ⟨b, rfl, q⟩
      exact q
    | false => exact iteF (TB.pure (p := q) (show TB G W q (fun ρ => .ok false ρ) σ H1 (fun b H1 => Q (.bl b) H1) from by simpa using z))
  exact sv_not.TX.toB h2
theorem sv_or (ha : SV X G W p a f) (hb : SV X G W q (.BoolOp .Or (b :: rest) pos) g) : SV X G W (p && q) (.BoolOp .Or (a :: b :: rest) pos) (bOr f g) := PE.of (pe_or ha hb) fun σ H Q h => by
  have h2 : TB G W p f σ H fun c H1 => if c = true then Q (.bl true) H1 else TX G W q (mB g) σ H1 Q := TB.bind (q := q) (k := fun b ρ' => if b then .ok true ρ' else g ρ') (TX.mB h) fun b H1 z => by
    cases b with
    | false =>
      refine iteF ((sv_not.TX.toB (show TB G W q g σ H1 (fun b H1 => Q (.bl b) H1) from by simpa using z)).mono ?_)
      rintro v H ⟨b, rfl, q⟩
      exact q
    | true => exact iteT (TB.pure (p := q) (show TB G W q (fun ρ => .ok true ρ) σ H1 (fun b H1 => Q (.bl b) H1) from by simpa using z))
  exact sv_not.TX.toB h2
/-- x if c else y -/
theorem TX.if {pc p q r : Bool} {fc : M Bool} {f g : M OD} {Q : VK} (hp : r = true → pc = true ∧ p = true ∧ q = true) (h : TX G W r (mIf fc f g) σ H Q) : TB G W pc fc σ H fun c H1 => if c = true then TX G W p f σ H1 Q else TX G W q g σ H1 Q := by
  obtain ⟨F, ρ, A, κ, ς, S, hl, h⟩ := h
  refine ⟨F, ρ, A, κ, ς, S, hl, ?_⟩
  unfold mIf at h
  cases e1 : fc ρ with
  | stuck => rw [e1] at h; exact h
  | exc x ρ' => rw [e1] at h; exact h
  | ok b ρ1 =>
    rw [e1] at h
    simp only [Out.bind_ok] at h
    intro F1 H1 A1 g1 S1
    have part : ∀ {p : Bool} {f : M OD}, (r = true → p = true) → (Pst G W r (f ρ1) F H A κ ς σ fun od ρ' => ∀ F' H' v A', Go r F H A F' H' A' → Stt G F' H' (some od :: (κ ++ ρ')) (some v :: (ς ++ σ)) A' → Q v H') → TX G W p f σ H1 Q := by
      intro p f hp2 h
      refine ⟨F1, ρ1, A1, κ, ς, S1, hl, ?_⟩
      cases e2 : f ρ1 with
      | stuck => rw [e2] at h; exact h
      | exc x ρ' => rw [e2] at h; exact fun F' H' A' cls d g2 S' xr => h F' H' A' cls d ((g1.trans g2).imp fun z => by cases z) S' xr
      | ok od ρ2 => rw [e2] at h; exact fun F' H' v A' g2 S' => h F' H' v A' ((g1.trans g2).imp fun z => by simp [(hp z).1, hp2 z]) S'
    cases b with
    | true => exact iteT (part (fun z => (hp z).2.1) (by simpa using h))
    | false => exact iteF (part (fun z => (hp z).2.2) (by simpa using h))
theorem sx_if {pc p q : Bool} {fc : M Bool} {f g : M OD} (hc : SB X G W pc c fc) (ha : SX X G W p a f) (hb : SX X G W q b g) : SX X G W (pc && (p && q)) (.IfExp c a b pos) (mIf fc f g) := PE.of (pe_ifExp hc ha hb) fun σ H Q h => TX.if (fun z => by simpa using z) h
end
/-! ### the names of the module -/
def GCon (G : Gx) (x : Str) (d : D) : Prop := ∃ v u, G.mg x = some u ∧ RelV v u ∧ ∀ F, Rep G F d v
structure Cal (P : Program) (w : World) (G : Gx) (base : Heap) (k : Nat) (x : Str) (ps : List Str) (f : FnM) : Prop where
  ex : ∃ fa fd, G.mg x = some (.ref fa) ∧ PySem.W.keepIn G.K (.ref fa) = true ∧ Binds G.K fd ps [] ∧ FnOk P w G.K G.mg base (L2.CX P w) k fa fd ps (spOf G f)
section
variable {G : Gx} {W : WX} {X : Cx} {k j : Nat} {x : Str} {p pos : Pos} {e : Expr} {es : List Expr} {as : List Opd} {f : FnM} {ps : List Str} {d : D}
theorem sx_glob (c : GCon G x d) (hG : G = ⟨X.K, X.mg⟩ := by rfl) (hg : Gl X x := by rfl) (hd : (x == ("__debug__" : Str)) = false := by decide) : SX X G W true (.Name x pos) (mC d) := by
  subst hG
  obtain ⟨v, u, hm, r, h⟩ := c
  exact sx_c (pe_glob hg hm r hd) h
theorem Cal.mono {P : Program} {w : World} {base : Heap} (c : Cal P w G base j x ps f) (h : j ≤ k) : Cal P w G base k x ps f := by
  obtain ⟨fa, fd, a, b, e, g⟩ := c.ex
  exact ⟨fa, fd, a, b, e, g.mono h⟩
theorem sx_cal (c : Cal X.prog X.w G X.base j x ps f) (hG : G = ⟨X.K, X.mg⟩) (hr : Room k X.A) (tk : Takes X W) (ha : PA X (e :: es) (tAll G W as)) (hj : j ≤ k := by decide) (hg : Gl X x := by rfl) (hdb : (x == ("__debug__" : Str)) = false := by decide)
    (he : starEach (e :: es) X.env = (false, eval e X.env) :: starEach es X.env := by rfl) (hpl : (backTo pos (starEach es X.env)).any (·.1) = false := by rfl) :
    SX X G W (pAll as && noPlc as) (.Call (.Name x p) (e :: es) [] pos) (mCall f as) := by
  subst hG
  obtain ⟨fa, fd, a, b, c, g⟩ := c.ex
  exact sx_call (g.mono hj) hr hg a b c tk ha hdb he hpl
theorem sx_cal0 (c : Cal X.prog X.w G X.base j x ps f) (hG : G = ⟨X.K, X.mg⟩) (hr : Room k X.A) (tk : Takes X W) (hj : j ≤ k := by decide) (hg : Gl X x := by rfl) (hdb : (x == ("__debug__" : Str)) = false := by decide) :
    SX X G W true (.Call (.Name x p) [] [] pos) (mCall f []) := by
  subst hG
  obtain ⟨fa, fd, a, b, c, g⟩ := c.ex
  constructor
  intro pins s σ H Q I h
  refine wpAny_Call_Name_kw (ld_glob I hg a ?_ hdb)
  exact PySem.W.callWith_K0 I.kIn b (run_fnS (us := []) (vs := []) (g.mono hj) hr c (passAt tk σ) I .nil (calls_run (as := []) (fun _ _ _ z => z) h))
/-- THE RULE for a def of the module's top, by its row -/
theorem fnv_ok {P : Program} {w : World} {base : Heap} {qual : Str} {params : Arguments} {body : List Stmt} {scope : Scope} {fa : Addr} {fd : FuncData} {N : List Str} {mask : List Bool} {m : SM} (Fn : FunD G.K x qual params body scope [] [] fa fd) (S : FnScope N ps scope)
    (hm : mask.length = ps.length)
    (hb : ∀ (cdv : Value) (A : Around) (outer : List PySem.Env) (s : Shared) (H : Hp) (E : XK), Room k (A.deeper (PyProof.Rows.envOfC qual scope s.heap.objs.size fa cdv)) →
      SSs (cxOf (L2.CX P w) P w G.K G.mg base N qual scope fa cdv A outer s H E) G (fun cls d _ H => E cls d H) (pnOf mask 0) body m) :
    FnOk P w G.K G.mg base (L2.CX P w) (k + 1) fa fd ps (spOf G (defM N.length mask m)) := by
  obtain ⟨oc, od, dV, kV, doc, pm, an, cdv, ct, osl, h1, lk, hcd, hD, _⟩ := Fn.ex
  rcases hD with ⟨_, rfl⟩ | ⟨e, _⟩
  · exact def_ok (st := .FunctionDef x params body [] none [] scope none x ⟨0, 0, 0, 0⟩) ⟨⟨oc, od, kV, doc, pm, an, cdv, ct, osl, h1, lk, hcd⟩, Fn.kp⟩ S hm hb
  · exact absurd rfl e
theorem cal_ok {P : Program} {w : World} {base : Heap} {qual : Str} {params : Arguments} {body : List Stmt} {scope : Scope} {fa : Addr} {fd : FuncData} {N : List Str} {mask : List Bool} {m : SM} (Fn : FunD G.K x qual params body scope [] [] fa fd) (hx : G.mg x = some (.ref fa)) (S : FnScope N ps scope)
    (hm : mask.length = ps.length) (hbi : ∀ (kV doc pm : Value) (an : Option Addr) (cdv ct : Value) (us : List Value), us.length = ps.length → bindArgs (PySem.W.fnOf x qual params body scope .none kV doc pm an cdv ct) ⟨us, []⟩ = pure (ps.zip us))
    (hb : ∀ (cdv : Value) (A : Around) (outer : List PySem.Env) (s : Shared) (H : Hp) (E : XK), Room k (A.deeper (PyProof.Rows.envOfC qual scope s.heap.objs.size fa cdv)) →
      SSs (cxOf (L2.CX P w) P w G.K G.mg base N qual scope fa cdv A outer s H E) G (fun cls d _ H => E cls d H) (pnOf mask 0) body m) :
    Cal P w G base (k + 1) x ps (defM N.length mask m) := ⟨fa, fd, hx, Fn.kp, Fn.bindsN hbi, fnv_ok Fn S hm hb⟩
end
end Vs
/-! VsJ: the head by a Hook, the module's constants, the end. -/
namespace Vs
open PySem L2 PySem.Spec PyProof.Rows
/-! ### constants of the module: what never changes -/
mutual
def conB (K : PySem.W.Frag) : D → Value → Bool
  | .non, .none => true
  | .bl b, .bool c => b == c
  | .int i, .int j _ => decide (i = j)
  | .str x, .str y _ => decide (x = y)
  | .tup ds, .ref a => match K.lookup a with
    | some ⟨.type c, _, .seq its _, _⟩ => decide (c = "tuple") && (decide (its.size ≤ sizeLine) && consB K ds its.toList)
    | _ => false
  | .rol ds, .ref a => match K.lookup a with
    | some ⟨.type c, none, .seq its _, _⟩ => decide (c = "list") && (decide (its.size ≤ sizeLine) && consB K ds its.toList)
    | _ => false
  | _, _ => false
def consB (K : PySem.W.Frag) : List D → List Value → Bool
  | [], [] => true
  | d :: ds, u :: us => conB K d u && consB K ds us
  | _, _ => false
end
mutual
theorem conB_ok {G : Gx} : ∀ {d : D} {u : Value}, conB G.K d u = true → ∃ v, RelV v u ∧ ∀ F, Rep G F d v
  | .non, u, h => by
    cases u <;> simp [conB] at h
    exact ⟨.non, rfl, fun F => by simp only [Rep]⟩
  | .bl b, u, h => by
    cases u <;> simp [conB] at h
    exact ⟨.bl b, by rw [h]; rfl, fun F => by simp only [Rep]⟩
  | .int i, u, h => by
    cases u <;> simp [conB] at h
    exact ⟨.int i, by rw [h]; exact ⟨_, rfl⟩, fun F => by simp only [Rep]⟩
  | .str x, u, h => by
    cases u <;> simp [conB] at h
    exact ⟨.str x, by rw [h]; exact ⟨_, rfl⟩, fun F => by simp only [Rep]⟩
  | .tup ds, u, h => by
    cases u with
    | ref a =>
      simp only [conB] at h
      split at h
      · rename_i c od its n osl e
        simp only [Bool.and_eq_true, decide_eq_true_eq] at h
        obtain ⟨vs, hv, hr⟩ := consB_ok (G := G) h.2.2
        exact ⟨.ref a, rfl, fun F => by simp only [Rep]; exact ⟨a, vs, rfl, .inr ⟨_, its, n, e, congrArg Value.type h.1, rfl, h.2.1, hv⟩, hr F⟩⟩
      · cases h
    | _ => simp [conB] at h
  | .rol ds, u, h => by
    cases u with
    | ref a =>
      simp only [conB] at h
      split at h
      · rename_i c its n osl e
        simp only [Bool.and_eq_true, decide_eq_true_eq] at h
        obtain ⟨vs, hv, hr⟩ := consB_ok (G := G) h.2.2
        exact ⟨.ref a, rfl, fun F => by simp only [Rep]; exact ⟨a, vs, rfl, .inr ⟨_, its, n, e, congrArg Value.type h.1, rfl, rfl, h.2.1, hv⟩, hr F⟩⟩
      · cases h
    | _ => simp [conB] at h
  | .lst ds, u, h => by simp [conB] at h
  | .dk ks ds, u, h => by simp [conB] at h
  | .ins c fs ds, u, h => by simp [conB] at h
theorem consB_ok {G : Gx} : ∀ {ds : List D} {us : List Value}, consB G.K ds us = true → ∃ vs, Vals vs us ∧ ∀ F, Reps G F ds vs
  | [], us, h => by
    cases us <;> simp [consB] at h
    exact ⟨[], .nil, fun F => by simp only [Reps]⟩
  | d :: ds, us, h => by
    cases us with
    | nil => simp [consB] at h
    | cons u us =>
      simp only [consB, Bool.and_eq_true] at h
      obtain ⟨v, h1, h2⟩ := conB_ok h.1
      obtain ⟨vs, h3, h4⟩ := consB_ok h.2
      exact ⟨v :: vs, .cons h1 h3, fun F => by simp only [Reps]; exact ⟨v, vs, rfl, h2 F, h4 F⟩⟩
end
/-- the module's name x stands for d -/
def nsB (K : PySem.W.Frag) (x : Str) (d : D) : Bool := match PySem.W.nsIn K mainGlobals x with
  | some (some u) => conB K d u
  | _ => false
/-! ### the Hook -/
abbrev AlV := He.AlD × Bool
def obsV (n : Nat) (fa : List He.Fa) (fn : List He.DefD) (cs : List (Str × D)) (g : Addr → Option Obj) : AlV := (He.obsDG n fa fn g, cs.all fun p => nsB (He.frG g (He.asD g n)) p.1 p.2)
def hookV (n : Nat) (fa : List He.Fa) (fn : List He.DefD) (cs : List (Str × D)) : PySem.W.Hook where
  α := AlV
  obs := fun s => obsV n fa fn cs s.heap.get?
  val := fun _ => (He.valD fn, true)
  says := fun _ h => ∃ K : PySem.W.Frag, K.In h ∧ He.SaysD fa fn K ∧ (cs.all fun p => nsB K p.1 p.2) = true
  of := fun _ _ e => ⟨_, He.frG_in, congrArg (fun z : AlV => z.1) e, congrArg (fun z : AlV => z.2) e⟩
  keeps := fun _ _ _ ⟨K, hK, c⟩ k => ⟨K, PySem.W.Frag.In.keeps hK k, c⟩
theorem obsV_eq {n : Nat} {fa : List He.Fa} {fn : List He.DefD} {cs : List (Str × D)} {g : Addr → Option Obj} {s : Shared} (h : ∀ a, g a = s.heap.get? a) : obsV n fa fn cs g = (hookV n fa fn cs).obs s := by
  have e : g = s.heap.get? := funext h
  rw [e] <;> rfl
/-- what is known of the module -/
structure Hd (fa : List He.Fa) (fn : List He.DefD) (cs : List (Str × D)) (G : Gx) : Prop where
  says : He.SaysD fa fn G.K
  cons : (cs.all fun p => nsB G.K p.1 p.2) = true
  at_ : ∃ h : Heap, G.K.In h ∧ h.Ns mainGlobals G.mg
section
variable {fa : List He.Fa} {fn : List He.DefD} {cs : List (Str × D)} {G : Gx}
theorem Hd.glo (h : Hd fa fn cs G) (i : Nat) {x : Str} (e : fa[i]? = some (.glo x) := by rfl) : G.mg x = some (.ref (He.ga G.K x)) := by
  obtain ⟨p, X, N⟩ := h.at_
  exact He.glo_ok X N (h.says.fact i e)
theorem Hd.free (h : Hd fa fn cs G) (i : Nat) {x : Str} (e : fa[i]? = some (.free x) := by rfl) : G.mg x = none := by
  obtain ⟨p, X, N⟩ := h.at_
  exact He.free_ok X N (h.says.fact i e)
theorem Hd.con (h : Hd fa fn cs G) (i : Nat) {x : Str} {d : D} (e : cs[i]? = some (x, d) := by rfl) : GCon G x d := by
  obtain ⟨p, X, N⟩ := h.at_
  have h2 : nsB G.K x d = true := List.all_eq_true.mp h.cons (x, d) (List.mem_of_getElem? e)
  unfold nsB at h2
  split at h2
  · rename_i u q
    obtain ⟨v, h3, h4⟩ := conB_ok h2
    exact ⟨v, u, PySem.W.mg_of X N q, h3, h4⟩
  · cases h2
end
theorem walk_V {l : PySem.W.OpenLaw} {n k : Nat} {q : Program} {loose : List Str} {XP : (Str → Option Value) → Heap → Prop} {YP : World → Heap → Prop} {d : DefRec} {x y : Str}
    (hn : l.most = some n) (hn2 : n ≤ sizeLine) (hdf : d.params.defaults = []) (hr : Room k callerA) (hd : d.name = y)
    (F : ∀ (w : World) (mg : Str → Option Value) (h : Heap), YP w h → h.Ns mainGlobals mg →
      ∃ (K : PySem.W.Frag) (f : FnM) (fd : FuncData) (fa : Addr), K.In h ∧ mg y = some (.ref fa) ∧ (∀ (s : Shared) (u : Value), BindsTo s fd ⟨[u], []⟩ [(x, u)]) ∧ (∀ ns : List Int, ns.length ≤ n → ∃ bk, f [.v (.rol (ns.map .int))] = .ok (.v (.bl true)) bk) ∧
        ∀ base : Heap, K.In base → base.Ns mainGlobals mg → FnOk l.prog w K mg base (L2.CX l.prog w) k fa fd [x] (spOf ⟨K, mg⟩ f)) :
    PySem.W.WalkO q loose XP YP l.row.toRowW d [] (fun f vs => PySem.call f vs) := by
  refine Att.attach_call hn hdf fun w s₀ s₁ mg mb fa o pm cd doc a vs ns G Y ho hd' hcd hmg hobj hints hlen hg => ?_
  obtain ⟨K, f, fd, fa2, KX, e2, hb, hl, hF⟩ := F w mg _ Y G.T.g
  rw [hd, e2] at hmg
  obtain rfl : fa2 = fa := by injection hmg with z; injection z
  refine law_call KX G.T.g G.T.b G.T.builtins G.T.nolimit hg hobj hints (Nat.le_trans hlen hn2) hr hF hb (fun H hO hS => ?_) fun H e s' z => ?_
  · obtain ⟨bk, e⟩ := hl ns hlen
    refine ⟨H, [.v (.rol (ns.map .int))], fun _ => False, ⟨.refl _, ?_, fun _ (z : False) => z.elim⟩, ?_⟩
    · simp only [List.map_cons, List.map_nil, Sl, OT, Rep]
      refine ⟨.ref a, [], fun _ => False, fun _ => False, rfl, ⟨⟨a, ns.map V.int, rfl, hS, ?_⟩, fun _ z => z⟩, ⟨rfl, fun _ z => z⟩, ⟨fun _ => ⟨fun z => z.elim, fun z => z.elim id id⟩, fun _ z => z.elim⟩⟩
      exact .map fun i _ => by simp only [Rep]
    · rw [e]
      intro F' H' v A' g S
      obtain ⟨r, _⟩ := S.pop_v
      simpa only [Rep] using r
  · obtain ⟨_, _, _, _, _, _, _, _, _, _, _, _, z⟩ := z
    exact z.elim
end Vs
/-! VsK: the rules in short, for printed derivations. -/
namespace Vs
open PySem L2 PySem.Spec PyProof.Rows
/-- what every rule asks of the context -/
structure Ok (X : Cx) (G : Gx) (W : WX) (k : Nat) : Prop where
  g : G = ⟨X.K, X.mg⟩
  r : Room k X.A
  t : Takes X W
  c : X.calm = true
  n : X.N.Nodup
theorem Ok.gK {X : Cx} {G : Gx} {W : WX} {k : Nat} (K : Ok X G W k) : G.K = X.K := by rw [K.g]
theorem Ok.m {X : Cx} {G : Gx} {W : WX} {k : Nat} (K : Ok X G W k) {x : Str} {v : Option Value} (h : G.mg x = v) : X.mg x = v := by rw [K.g] at h; exact h
theorem Ok.u1 {X : Cx} {G : Gx} {W : WX} {k : Nat} (K : Ok X G W k) : X.A.units + 1 < cLine := by have := K.r.units; omega
theorem Ok.u64 {X : Cx} {G : Gx} {W : WX} {k : Nat} (K : Ok X G W k) : X.A.units + 64 < cLine := K.r.units
/-- in a def's body -/
theorem ok_cx {P : Program} {w : World} {G : Gx} {base : Heap} {N : List Str} {qual : Str} {scope : Scope} {f : Addr} {cdv : Value} {A : Around} {outer : List PySem.Env} {s : Shared} {H : Hp} {E : XK} {k : Nat}
    (hr : Room k (A.deeper (envOfC qual scope s.heap.objs.size f cdv))) (hN : N.Nodup) : Ok (cxOf (L2.CX P w) P w G.K G.mg base N qual scope f cdv A outer s H E) G (fun cls d _ H => E cls d H) k :=
  ⟨rfl, hr, takes_of rfl rfl rfl rfl, rfl, hN⟩
theorem po_cx {P : Program} {w : World} {G : Gx} {base : Heap} {N : List Str} {qual : Str} {scope : Scope} {f : Addr} {cdv : Value} {A : Around} {outer : List PySem.Env} {s : Shared} {H : Hp} {E : XK} :
    PassesOwn (model (cxOf (L2.CX P w) P w G.K G.mg base N qual scope f cdv A outer s H E).prog (cxOf (L2.CX P w) P w G.K G.mg base N qual scope f cdv A outer s H E).w) (cxOf (L2.CX P w) P w G.K G.mg base N qual scope f cdv A outer s H E).A (cxOf (L2.CX P w) P w G.K G.mg base N qual scope f cdv A outer s H E).env (cxOf (L2.CX P w) P w G.K G.mg base N qual scope f cdv A outer s H E).xe := passes_of rfl
/-- in a comprehension -/
theorem Ok.blk {X : Cx} {G : Gx} {W : WX} {k : Nat} (K : Ok X G W k) (s : Shared) (H : Hp) (scope : Scope) (cl : List (Str × Addr)) (C : Addr) (fp : List Addr) : Ok (X.blk s H scope (compEnvC scope cl C X.env) fp) G W0 k :=
  ⟨K.g, K.r, takes0, K.c, K.n⟩
section
variable {G : Gx} {W : WX} {X : Cx} {k : Nat} {e a b c : Expr} {es : List Expr} {oa ob oc : Opd} {pos p q : Pos} {x : Str}
theorem e_int {i : Int} {j} : SX X G W true (.Constant (.int i) j pos) (mC (.int i)) := sx_c pe_int fun F => by simp only [Rep]
theorem e_str {i : Str} {j} : SX X G W true (.Constant (.str i) j pos) (mC (.str i)) := sx_c pe_str fun F => by simp only [Rep]
theorem e_bl {i : Bool} {j} : SX X G W true (.Constant (.bool i) j pos) (mC (.bl i)) := sx_c pe_bl fun F => by simp only [Rep]
theorem e_non {j} : SX X G W true (.Constant .none j pos) (mC .non) := sx_c pe_non fun F => by simp only [Rep]
theorem e_var (i : Nat) (hN : X.N[i]? = some x := by rfl) (hv : Vis X.env.scope x := by first | exact Or.inl rfl | exact Or.inr (Or.inl rfl) | exact Or.inr (Or.inr rfl)) (hd : (x == ("__debug__" : Str)) = false := by decide)
    (hcd : (x == ("__classdict__" : Str)) = false := by decide) : SX X G W true (.Name x pos) (mVar i) := sx_var (pe_var hN hv hd hcd)
theorem e_mv (i : Nat) (hN : X.N[i]? = some x := by rfl) (hv : Vis X.env.scope x := by first | exact Or.inl rfl | exact Or.inr (Or.inl rfl) | exact Or.inr (Or.inr rfl)) (hd : (x == ("__debug__" : Str)) = false := by decide)
    (hcd : (x == ("__classdict__" : Str)) = false := by decide) : SX X G W true (.Name x pos) (mMv i) := sx_mv (pe_var hN hv hd hcd)
theorem o_p (i : Nat) (hN : X.N[i]? = some x := by rfl) (hv : Vis X.env.scope x := by first | exact Or.inl rfl | exact Or.inr (Or.inl rfl) | exact Or.inr (Or.inr rfl)) (hd : (x == ("__debug__" : Str)) = false := by decide)
    (hcd : (x == ("__classdict__" : Str)) = false := by decide) : SO X G W (.Name x pos) (.plc i) := so_plc (pe_var hN hv hd hcd)
theorem o_v {p : Bool} {f : M OD} (h : SX X G W p e f) : SO X G W e (.val p f) := h
theorem e_glob {d : D} (K : Ok X G W k) (c : GCon G x d) (hg : Gl X x := by rfl) (hd : (x == ("__debug__" : Str)) = false := by decide) : SX X G W true (.Name x pos) (mC d) := sx_glob c K.g hg hd
/-! operators -/
def opSub (xs : List D) : Option OD := (dI (· - ·) xs).map .v
def opMul (xs : List D) : Option OD := (dIc CMul (· * ·) xs).map .v
def opFdv (xs : List D) : Option OD := (dIc CDivN Int.fdiv xs).map .v
def opMod (xs : List D) : Option OD := (dIc (fun _ j => j ≠ 0) Int.fmod xs).map .v
def opPow (xs : List D) : Option OD := (dIc CPow (fun i j => i ^ j.toNat) xs).map .v
def opLt (xs : List D) : Option OD := (dIB (fun i j => decide (i < j)) xs).map .v
def opLe (xs : List D) : Option OD := (dIB (fun i j => decide (i ≤ j)) xs).map .v
def opGt (xs : List D) : Option OD := (dIB (fun i j => decide (j < i)) xs).map .v
def opGe (xs : List D) : Option OD := (dIB (fun i j => decide (j ≤ i)) xs).map .v
def opIsN (xs : List D) : Option OD := (dIsN xs).map .v
def opNotN (xs : List D) : Option OD := (dNotN xs).map .v
def opNeg (xs : List D) : Option OD := (dNeg xs).map .v
theorem e_add (K : Ok X G W k) (ha : SO X G W a oa) (hb : SO X G W b ob) : SX X G W (pAll [oa, ob]) (.BinOp a .Add b pos) (mApp opAdd [oa, ob]) := sx_bin op_addA (rn_addA K.gK) ha hb
theorem e_sub (K : Ok X G W k) (ha : SO X G W a oa) (hb : SO X G W b ob) : SX X G W (pAll [oa, ob]) (.BinOp a .Sub b pos) (mApp opSub [oa, ob]) := sx_bin op_sub rn_I ha hb
theorem e_mul (K : Ok X G W k) (ha : SO X G W a oa) (hb : SO X G W b ob) : SX X G W (pAll [oa, ob]) (.BinOp a .Mult b pos) (mApp opMul [oa, ob]) := sx_bin op_mul rn_Ic ha hb
theorem e_fdv (K : Ok X G W k) (ha : SO X G W a oa) (hb : SO X G W b ob) : SX X G W (pAll [oa, ob]) (.BinOp a .FloorDiv b pos) (mApp opFdv [oa, ob]) := sx_bin op_fdivN rn_Ic ha hb
theorem e_mod (K : Ok X G W k) (ha : SO X G W a oa) (hb : SO X G W b ob) : SX X G W (pAll [oa, ob]) (.BinOp a .Mod b pos) (mApp opMod [oa, ob]) := sx_bin op_modN rn_Ic ha hb
theorem e_pow (K : Ok X G W k) (ha : SO X G W a oa) (hb : SO X G W b ob) : SX X G W (pAll [oa, ob]) (.BinOp a .Pow b pos) (mApp opPow [oa, ob]) := sx_bin op_pow rn_Ic ha hb
theorem e_neg (K : Ok X G W k) (ha : SO X G W a oa) : SX X G W (pAll [oa]) (.UnaryOp .USub a pos) (mApp opNeg [oa]) := sx_un un_neg rn_neg ha
/-! comparisons: as values, as tests -/
theorem app_tx {as : List Opd} {op : List D → Option OD} {r : List V → Hp → VK → Prop} {σ : L2.St} {H : Hp} {Q : VK} (R : RN G r op) (q : TX G W (pAll as) (mApp op as) σ H Q) : tAll G W as σ H fun vs H1 => r vs H1 Q := by
  obtain ⟨F, ρ, A, κ, ς, S, hl, q⟩ := q
  unfold mApp at q
  by_cases ho : okPl ρ as = true
  · rw [if_pos ho] at q
    refine tAll_run S hl (okPl_ok S hl ho) ?_
    cases e1 : evAll as ρ with
    | stuck => rw [e1] at q; exact q
    | exc x ρ' => rw [e1] at q; exact q
    | ok ds ρ' =>
      rw [e1] at q
      simp only [Out.bind_ok] at q
      intro F1 H1 vs A1 g1 S1 l1
      cases e2 : res ρ' ds with
      | none => rw [e2] at q; exact q.elim
      | some xs =>
        rw [e2] at q
        simp only [Option.bind_some] at q
        cases e3 : op xs with
        | none => rw [e3] at q; exact q.elim
        | some z =>
          rw [e3] at q
          exact app_done R g1 S1 hl l1 e2 e3 q
  · rw [if_neg ho] at q; exact q.elim
theorem asB_tx {p : Bool} {f : M OD} {σ : L2.St} {H : Hp} {Q : Bool → Hp → Prop} (q : TB G W p (asB f) σ H Q) : TX G W p f σ H fun v H1 => ∃ b, v = .bl b ∧ Q b H1 := TX.asB q
theorem sb_cmp {op : CmpOp} {r : R2} {f : List D → Option OD} (ho : OpR X (compareOp op) r) (R : RN G (RV2 r) f) (hm : behindInMarks op b = false) (ha : SO X G W a oa) (hb : SO X G W b ob) : SB X G W (pAll [oa, ob]) (.Compare a [op] [b] pos) (asB (mApp f [oa, ob])) :=
  PT.of (pt_cmpR ho ha hb hm) fun σ H Q q => app_tx R (asB_tx q)
theorem e_eq (K : Ok X G W k) (ha : SO X G W a oa) (hb : SO X G W b ob) : SX X G W (pAll [oa, ob]) (.Compare a [.Eq] [b] pos) (mApp opEq [oa, ob]) := sx_cmp (op_eqP K.u64) (rn_eq K.gK) (nomark _) ha hb
theorem e_ne (K : Ok X G W k) (ha : SO X G W a oa) (hb : SO X G W b ob) : SX X G W (pAll [oa, ob]) (.Compare a [.NotEq] [b] pos) (mApp opNe [oa, ob]) := sx_cmp (op_neP K.u64) (rn_ne K.gK) (nomark _) ha hb
theorem e_lt (K : Ok X G W k) (ha : SO X G W a oa) (hb : SO X G W b ob) : SX X G W (pAll [oa, ob]) (.Compare a [.Lt] [b] pos) (mApp opLt [oa, ob]) := sx_cmp op_lt rn_IB (nomark _) ha hb
theorem e_le (K : Ok X G W k) (ha : SO X G W a oa) (hb : SO X G W b ob) : SX X G W (pAll [oa, ob]) (.Compare a [.LtE] [b] pos) (mApp opLe [oa, ob]) := sx_cmp op_le rn_IB (nomark _) ha hb
theorem e_gt (K : Ok X G W k) (ha : SO X G W a oa) (hb : SO X G W b ob) : SX X G W (pAll [oa, ob]) (.Compare a [.Gt] [b] pos) (mApp opGt [oa, ob]) := sx_cmp op_gt rn_IB (nomark _) ha hb
theorem e_ge (K : Ok X G W k) (ha : SO X G W a oa) (hb : SO X G W b ob) : SX X G W (pAll [oa, ob]) (.Compare a [.GtE] [b] pos) (mApp opGe [oa, ob]) := sx_cmp op_ge rn_IB (nomark _) ha hb
theorem e_isN (K : Ok X G W k) (ha : SO X G W a oa) (hb : SO X G W b ob) : SX X G W (pAll [oa, ob]) (.Compare a [.Is] [b] pos) (mApp opIsN [oa, ob]) := sx_cmp op_isN rn_isN (nomark _) ha hb
theorem e_notN (K : Ok X G W k) (ha : SO X G W a oa) (hb : SO X G W b ob) : SX X G W (pAll [oa, ob]) (.Compare a [.IsNot] [b] pos) (mApp opNotN [oa, ob]) := sx_cmp op_notN rn_notN (nomark _) ha hb
theorem e_in (K : Ok X G W k) (ha : SO X G W a oa) (hb : SO X G W b ob) (hm : behindInMarks .In b = false := by with_unfolding_all rfl) : SX X G W (pAll [oa, ob]) (.Compare a [.In] [b] pos) (mApp (opIn false) [oa, ob]) := sx_cmp (op_inA K.u64) (rn_in K.gK) hm ha hb
theorem e_nin (K : Ok X G W k) (ha : SO X G W a oa) (hb : SO X G W b ob) (hm : behindInMarks .NotIn b = false := by with_unfolding_all rfl) : SX X G W (pAll [oa, ob]) (.Compare a [.NotIn] [b] pos) (mApp (opIn true) [oa, ob]) := sx_cmp (op_notInA K.u64) (rn_in K.gK) hm ha hb
theorem t_eq (K : Ok X G W k) (ha : SO X G W a oa) (hb : SO X G W b ob) : SB X G W (pAll [oa, ob]) (.Compare a [.Eq] [b] pos) (asB (mApp opEq [oa, ob])) := sb_cmp (op_eqP K.u64) (rn_eq K.gK) (nomark _) ha hb
theorem t_ne (K : Ok X G W k) (ha : SO X G W a oa) (hb : SO X G W b ob) : SB X G W (pAll [oa, ob]) (.Compare a [.NotEq] [b] pos) (asB (mApp opNe [oa, ob])) := sb_cmp (op_neP K.u64) (rn_ne K.gK) (nomark _) ha hb
theorem t_lt (K : Ok X G W k) (ha : SO X G W a oa) (hb : SO X G W b ob) : SB X G W (pAll [oa, ob]) (.Compare a [.Lt] [b] pos) (asB (mApp opLt [oa, ob])) := sb_cmp op_lt rn_IB (nomark _) ha hb
theorem t_le (K : Ok X G W k) (ha : SO X G W a oa) (hb : SO X G W b ob) : SB X G W (pAll [oa, ob]) (.Compare a [.LtE] [b] pos) (asB (mApp opLe [oa, ob])) := sb_cmp op_le rn_IB (nomark _) ha hb
theorem t_gt (K : Ok X G W k) (ha : SO X G W a oa) (hb : SO X G W b ob) : SB X G W (pAll [oa, ob]) (.Compare a [.Gt] [b] pos) (asB (mApp opGt [oa, ob])) := sb_cmp op_gt rn_IB (nomark _) ha hb
theorem t_ge (K : Ok X G W k) (ha : SO X G W a oa) (hb : SO X G W b ob) : SB X G W (pAll [oa, ob]) (.Compare a [.GtE] [b] pos) (asB (mApp opGe [oa, ob])) := sb_cmp op_ge rn_IB (nomark _) ha hb
theorem t_isN (K : Ok X G W k) (ha : SO X G W a oa) (hb : SO X G W b ob) : SB X G W (pAll [oa, ob]) (.Compare a [.Is] [b] pos) (asB (mApp opIsN [oa, ob])) := sb_cmp op_isN rn_isN (nomark _) ha hb
theorem t_notN (K : Ok X G W k) (ha : SO X G W a oa) (hb : SO X G W b ob) : SB X G W (pAll [oa, ob]) (.Compare a [.IsNot] [b] pos) (asB (mApp opNotN [oa, ob])) := sb_cmp op_notN rn_notN (nomark _) ha hb
theorem t_in (K : Ok X G W k) (ha : SO X G W a oa) (hb : SO X G W b ob) (hm : behindInMarks .In b = false := by with_unfolding_all rfl) : SB X G W (pAll [oa, ob]) (.Compare a [.In] [b] pos) (asB (mApp (opIn false) [oa, ob])) := sb_cmp (op_inA K.u64) (rn_in K.gK) hm ha hb
theorem t_nin (K : Ok X G W k) (ha : SO X G W a oa) (hb : SO X G W b ob) (hm : behindInMarks .NotIn b = false := by with_unfolding_all rfl) : SB X G W (pAll [oa, ob]) (.Compare a [.NotIn] [b] pos) (asB (mApp (opIn true) [oa, ob])) := sb_cmp (op_notInA K.u64) (rn_in K.gK) hm ha hb
/-! truth -/
def dTru : List D → Option D
  | [.non] => some (.bl false)
  | [.bl b] => some (.bl b)
  | [.int i] => some (.bl (i != 0))
  | [.str s] => if s.length ≤ sizeLine then some (.bl (!s.cps.isEmpty)) else none
  | [.tup xs] => some (.bl (!xs.isEmpty))
  | [.lst xs] => some (.bl (!xs.isEmpty))
  | [.rol xs] => some (.bl (!xs.isEmpty))
  | _ => none
def opTru (xs : List D) : Option OD := (dTru xs).map .v
/-! chains: the relations of ints -/
abbrev gLt (i j : Int) : Bool := decide (i < j)
abbrev gLe (i j : Int) : Bool := decide (i ≤ j)
/-! built-in names -/
def opAbs (xs : List D) : Option OD := (dAbs xs).map .v
def opInt (xs : List D) : Option OD := (dInt xs).map .v
def opLen (xs : List D) : Option OD := (dLen xs).map .v
def opOrd (xs : List D) : Option OD := (dOrd xs).map .v
def opStr (xs : List D) : Option OD := (dStr xs).map .v
def opList (xs : List D) : Option OD := (dList xs).map fun ds => .l (ds.map .v)
def opTuple (xs : List D) : Option OD := (dTuple xs).map .v
def opJoin (xs : List D) : Option OD := (dJoin xs).map .v
def opGet2 (xs : List D) : Option OD := (dGet2 xs).map .v
theorem e_bi {as : List Opd} {id : String} {r : List V → Hp → VK → Prop} {f : List D → Option OD} (hc : CallR X (.builtin id) r) (R : RN G r f) (K : Ok X G W k) (hm : G.mg x = none) (ha : PA X (e :: es) (tAll G W as)) (hv : bootBuiltins x = some (.builtin id) := by rfl) (hg : Gl X x := by rfl) (hn : x ≠ "__name__" := by decide) (hdb : (x == ("__debug__" : Str)) = false := by decide)
    (he : starEach (e :: es) X.env = (false, eval e X.env) :: starEach es X.env := by rfl) (hpl : (backTo pos (starEach es X.env)).any (·.1) = false := by rfl) : SX X G W (pAll as) (.Call (.Name x p) (e :: es) [] pos) (mApp f as) := sx_callB hc R hg (K.m hm) hv ha hn hdb he hpl
theorem e_ti {as : List Opd} {T : String} {r : List V → Hp → VK → Prop} {f : List D → Option OD} (hc : CallR X (.type T) r) (R : RN G r f) (K : Ok X G W k) (hm : G.mg x = none) (ha : PA X (e :: es) (tAll G W as)) (hv : bootBuiltins x = some (.type T) := by rfl) (hg : Gl X x := by rfl) (hn : x ≠ "__name__" := by decide) (hdb : (x == ("__debug__" : Str)) = false := by decide)
    (he : starEach (e :: es) X.env = (false, eval e X.env) :: starEach es X.env := by rfl) (hpl : (backTo pos (starEach es X.env)).any (·.1) = false := by rfl) : SX X G W (pAll as) (.Call (.Name x p) (e :: es) [] pos) (mApp f as) := sx_callT hc R hg (K.m hm) hv ha hn hdb he hpl
theorem e_ix (K : Ok X G W k) (ha : SO X G W a oa) (hb : SO X G W b ob) (hs : PlainIx b := by intro _ _; rfl) : SX X G W (pAll [oa, ob]) (.Subscript a b pos) (mApp opIx [oa, ob]) := sx_ix (ix_any K.u1) (rn_ix K.gK) hs ha hb
theorem e_bm {as : List Opd} {T : String} {op : List D → Option OD} {name : Str} {id : String} {rr : V → List V → Hp → VK → Prop} {apos : Pos} (pa : PlainAttrs T) (slot : Slot T name id) (hty : typeOf (.builtin id) = pure (.type "method_descriptor")) (hm : MtR X id rr) (R : RN G (fun vs H Q => match vs with | x :: xs => rr x xs H Q | [] => False) op) (K : Ok X G W k) (ho : SO X G W a oa) (ha : PA X (e :: es) (tAll G W as))
    (hbase : attributeBase a name X.env (eval a X.env) = eval a X.env := by rfl)
    (hfew : ((backTo pos (starEach (e :: es) X.env)).all (fun x => !x.1) && (backToKw pos (keywordEach [] X.env)).all (fun x => x.1.isSome)
      && decide ((e :: es).length + ([] : List Keyword).length + (if ([] : List Keyword).isEmpty then 0 else 1) < 30)) = true := by rfl)
    (hline : (apos.endLine == pos.line) = true := by rfl) (hs : starEach (e :: es) X.env = (false, eval e X.env) :: starEach es X.env := by rfl) (hplain : (backTo pos (starEach es X.env)).any (·.1) = false := by rfl) :
    SX X G W (pAll (oa :: as)) (.Call (.Attribute a name apos) (e :: es) [] pos) (mBm T op oa as) := sx_bm K.gK pa slot hty hm R ho ha hbase hfew hline hs hplain
/-! calls of defs -/
theorem e_cal {as : List Opd} {j : Nat} {ps : List Str} {f : FnM} (K : Ok X G W k) (c : Cal X.prog X.w G X.base j x ps f) (ha : PA X (e :: es) (tAll G W as)) (hj : j ≤ k := by decide) (hg : Gl X x := by rfl) (hdb : (x == ("__debug__" : Str)) = false := by decide)
    (he : starEach (e :: es) X.env = (false, eval e X.env) :: starEach es X.env := by rfl) (hpl : (backTo pos (starEach es X.env)).any (·.1) = false := by rfl) :
    SX X G W (pAll as && noPlc as) (.Call (.Name x p) (e :: es) [] pos) (mCall f as) := sx_cal c K.g K.r K.t ha hj hg hdb he hpl
/-! displays -/
theorem d_nil : PPs X pos [] [] ((([] : List (Opd × Opd))).map fun p => (tOpd G W p.1, tOpd G W p.2)) := pps_nil
theorem d_cons {ks : List (Option Expr)} {vs : List Expr} {as : List (Opd × Opd)} (ha : SO X G W a oa) (hb : SO X G W b ob) (h : PPs X pos ks vs (as.map fun p => (tOpd G W p.1, tOpd G W p.2))) :
    PPs X pos (some a :: ks) (b :: vs) (((oa, ob) :: as).map fun p => (tOpd G W p.1, tOpd G W p.2)) := pps_cons ha hb h
/-! statements -/
variable {pn : List Nat} {f : M OD} {i : Nat} {pb pb' : Bool} {g : SM} {body : List Stmt} {tg it : Expr}
theorem s_set (i : Nat) {pos' : Pos} (K : Ok X G W k) (he : SX X G W pb e f) (hi : X.N[i]? = some x := by rfl) (hp : i ∉ pn := by decide) (hx : Loc X.env.scope x := by first | exact Or.inl rfl | exact Or.inr rfl) (hs : swapsWith e (some (.Name x pos')) pos.line X.env = pure false := by rfl)
    (hf : X.fn x = true ∨ X.env.scope.names.lookup x = some .local := by first | exact Or.inr rfl | exact Or.inl rfl) : SS X G W pn (.Assign [.Name x pos'] e pos) (zSet i f) := z_set K.n he hi hp hx hs hf
theorem s_put (i : Nat) {fi : M OD} {tpos : Pos} (K : Ok X G W k) (he : SX X G W pb e f) (hb : SX X G W pb' b fi) (hN : X.N[i]? = some x := by rfl) (hv : Vis X.env.scope x := by first | exact Or.inl rfl | exact Or.inr (Or.inl rfl) | exact Or.inr (Or.inr rfl))
    (ha : ∀ v, assign (.Subscript (.Name x p) b tpos) X.env v = (do
      let ov ← holding [v] (eval (.Name x p) X.env)
      let iv ← holding [v, ov] (eval b X.env)
      standAt tpos
      holding [v, ov, iv] (setItem ov iv v)
      release [v, ov, iv] []) := by intro _; rfl)
    (hs : swapsWithSole [.Subscript (.Name x p) b tpos] e pos.line X.env = pure false := by rfl) (hw : swappedStores [.Subscript (.Name x p) b tpos] e X.env = pure none := by rfl)
    (h1 : (assignEach [.Subscript (.Name x p) b tpos] X.env).map (·.2) = [assign (.Subscript (.Name x p) b tpos) X.env] := by rfl) (hd : (x == ("__debug__" : Str)) = false := by decide)
    (hcd : (x == ("__classdict__" : Str)) = false := by decide) : SS X G W pn (.Assign [.Subscript (.Name x p) b tpos] e pos) (zSetIx i f fi) :=
  z_setIx (ps_asg he (pg_sub (pe_var hN hv hd hcd) hb (set_any K.u1) ha) hs hw h1)
theorem s_app (i : Nat) {apos cpos : Pos} (K : Ok X G W k) (he : SX X G W pb e f) (hN : X.N[i]? = some x := by rfl) (hv : Vis X.env.scope x := by first | exact Or.inl rfl | exact Or.inr (Or.inl rfl) | exact Or.inr (Or.inr rfl))
    (hbase : attributeBase (.Name x p) "append" X.env (eval (.Name x p) X.env) = eval (.Name x p) X.env := by rfl)
    (hfew : ((backTo cpos (starEach [e] X.env)).all (fun x => !x.1) && (backToKw cpos (keywordEach [] X.env)).all (fun x => x.1.isSome)
      && decide ([e].length + ([] : List Keyword).length + (if ([] : List Keyword).isEmpty then 0 else 1) < 30)) = true := by rfl)
    (hline : (apos.endLine == cpos.line) = true := by rfl) (hs : starEach [e] X.env = [(false, eval e X.env)] := by rfl) (hplain : (backTo cpos (starEach [] X.env)).any (·.1) = false := by rfl) (hw : swapsWith (.Call (.Attribute (.Name x p) "append" apos) [e] [] cpos) none pos.line X.env = pure false := by rfl)
    (hd : (x == ("__debug__" : Str)) = false := by decide) (hcd : (x == ("__classdict__" : Str)) = false := by decide) :
    SS X G W pn (.Expr (.Call (.Attribute (.Name x p) "append" apos) [e] [] cpos) pos) (zApp i f) :=
  z_app K.gK (ps_expr (pe_bm PySem.F.plainAttrs_list PySem.F.slot_list_append PySem.F.type_list_append mt_append (pe_var hN hv hd hcd) (pa_cons he pa_nil hs) hbase hfew hline hs hplain) hw)
theorem g_n (i : Nat) (K : Ok X G W k) (hi : X.N[i]? = some x := by rfl) (hx : Loc X.env.scope x := by first | exact Or.inl rfl | exact Or.inr rfl) (hf : X.fn x = true ∨ X.env.scope.names.lookup x = some .local := by first | exact Or.inr rfl | exact Or.inl rfl) : PG X (.Name x pos) (Tgt.t G.K (.name i)) := pg_name K.n hi hx hf
theorem g_nil : PGs X [] (gNames []) := pgs_nil
theorem g_cons (i : Nat) {is : List Nat} (K : Ok X G W k) (h : PGs X es (gNames is)) (hi : X.N[i]? = some x := by rfl) (hx : Loc X.env.scope x := by first | exact Or.inl rfl | exact Or.inr rfl) (hf : X.fn x = true ∨ X.env.scope.names.lookup x = some .local := by first | exact Or.inr rfl | exact Or.inl rfl) :
    PGs X (.Name x p :: es) (gNames (i :: is)) := pgs_cons (pg_name K.n hi hx hf) h
theorem g_t {is : List Nat} {j : Nat} (K : Ok X G W k) (h : PGs X es (gNames is)) (hn : (assignEach es X.env).length = is.length := by rfl) (hst : (assignEach es X.env).findIdx? (·.1) = none := by rfl) : PG X (.Tuple es j pos) (Tgt.t G.K (.tup is)) := by
  rw [K.gK]
  exact pg_tup K.c h hn hst
theorem s_for {tgm : Tgt} (K : Ok X G W k) (po : PassesOwn (model X.prog X.w) X.A X.env X.xe) (hi : SX X G W pb it f) (hg : PG X tg (tgm.t G.K)) (hb : SSs X G W pn body g) (hp : ∀ i ∈ tgm.ix, i ∉ pn := by decide) (hs : ∀ x, foldedSetIterable it X.env x = pure x := by intro _; rfl) :
    SS X G W pn (.For tg it body [] pos) (zForIn (zIt f) tgm g) := z_for K.gK po K.c hi hg hb hp hs
theorem s_for1 {tgm : Tgt} (K : Ok X G W k) (po : PassesOwn (model X.prog X.w) X.A X.env X.xe) (hm : G.mg "range" = none) (ha : SX X G W pb e f) (hg : PG X tg (tgm.t G.K)) (hb : SSs X G W pn body g) (hgl : Gl X "range" := by rfl) (hp : ∀ i ∈ tgm.ix, i ∉ pn := by decide)
    (hs : ∀ x, foldedSetIterable (.Call (.Name "range" p) [e] [] q) X.env x = pure x := by intro _; rfl) (hst : starEach [e] X.env = [(false, eval e X.env)] := by rfl) : SS X G W pn (.For tg (.Call (.Name "range" p) [e] [] q) body [] pos) (zForIn (zRng1 f) tgm g) :=
  z_forR1 po K.c hgl (K.m hm) (pa_cons ha pa_nil hst) hg hb hp hs hst
theorem s_for2 {tgm : Tgt} {f2 : M OD} (K : Ok X G W k) (po : PassesOwn (model X.prog X.w) X.A X.env X.xe) (hm : G.mg "range" = none) (ha : SX X G W pb e f) (hb2 : SX X G W pb' b f2) (hg : PG X tg (tgm.t G.K)) (hb : SSs X G W pn body g) (hgl : Gl X "range" := by rfl) (hp : ∀ i ∈ tgm.ix, i ∉ pn := by decide)
    (hs : ∀ x, foldedSetIterable (.Call (.Name "range" p) [e, b] [] q) X.env x = pure x := by intro _; rfl) (hst : starEach [e, b] X.env = [(false, eval e X.env), (false, eval b X.env)] := by rfl) (hst2 : starEach [b] X.env = [(false, eval b X.env)] := by rfl) : SS X G W pn (.For tg (.Call (.Name "range" p) [e, b] [] q) body [] pos) (zForIn (zRng2 f f2) tgm g) :=
  z_forR2 po K.c hgl (K.m hm) (pa_cons ha (pa_cons hb2 pa_nil hst2) (hst.trans (congrArg _ hst2.symm))) hg hb hp hs hst hst2
end
end Vs
namespace Vs
open PySem L2
/-- a comprehension's block, by computation -/
def blkB (N : List Str) (sc scope : Scope) (own : List (Str × Nat)) : Bool :=
  (scope.kind == .function) && ((scope.names.all fun y => decide (scope.names.lookup y.1 = some y.2)) && ((own.all fun p => decide (N[p.2]? = some p.1)) && ((scope.names.all fun y => decide (y.2 = .free → sc.names.lookup y.1 = some .cell ∨ sc.names.lookup y.1 = some .free)) &&
    scope.names.all fun y => decide (y.2 = .local ∨ y.2 = .cell → y.1 ∈ own.map (·.1) ∨ y.1 ∉ N))))
theorem blk_of {N : List Str} {sc scope : Scope} {own : List (Str × Nat)} (h : blkB N sc scope own = true) : BlkOk N sc scope own := by
  unfold blkB at h
  simp only [Bool.and_eq_true, List.all_eq_true, decide_eq_true_eq] at h
  obtain ⟨h1, h2, h3, h4, h5⟩ := h
  exact ⟨by cases hk : scope.kind <;> rw [hk] at h1 <;> first | rfl | exact absurd h1 (by decide), h2, h3, h4, h5⟩
end Vs
/-! VsL: mirrors are evaluated. -/
namespace Vs
open PySem L2
theorem nr {α : Sort _} {a b : α} (h : a = b) : a = b := h
def ofO (o : Option OD) : M OD := fun ρ => match o with
  | some z => .ok z ρ
  | none => .stuck
@[simp] theorem ofO_some {z : OD} {ρ : Env} : ofO (some z) ρ = .ok z ρ := nr rfl
def ofS (o : Option Env) : Out Fl := match o with
  | some ρ => .ok .nx ρ
  | none => .stuck
@[simp] theorem ofS_some {ρ : Env} : ofS (some ρ) = .ok .nx ρ := nr rfl
structure Tag {α : Type} (a : α) : Type where
/-- bind, its rest not looked into -/
def bindL {α β : Type} (k : α → M β) (t : Tag k) (o : Out α) : Out β := o.bind k
theorem bind_e {α β : Type} {o : Out α} {k : α → M β} : o.bind k = bindL k ⟨⟩ o := nr rfl
theorem bindL_ok {α β : Type} {k : α → M β} {t : Tag k} {a : α} {ρ : Env} : bindL k t (.ok a ρ) = k a ρ := nr rfl
theorem bindL_exc {α β : Type} {k : α → M β} {t : Tag k} {x : XV} {ρ : Env} : bindL k t (.exc x ρ) = .exc x ρ := nr rfl
theorem bindL_stuck {α β : Type} {k : α → M β} {t : Tag k} : bindL k t .stuck = .stuck := nr rfl
theorem mApp_e {op : List D → Option OD} {as : List Opd} {ρ : Env} : mApp op as ρ = if okPl ρ as = true then (evAll as ρ).bind fun ds ρ' => ofO ((res ρ' ds).bind op) ρ' else .stuck := by
  unfold mApp
  split
  · first | rfl | (congr 1; funext ds ρ'; unfold ofO; cases (res ρ' ds).bind op <;> rfl)
  · rfl
theorem mBm_e {T : String} {op : List D → Option OD} {r : Opd} {as : List Opd} {ρ : Env} : mBm T op r as ρ = if T ≠ "" ∧ okPl ρ (r :: as) = true then (r.ev ρ).bind fun d ρ1 => if isKd T ρ1 d = true then (evAll as ρ1).bind fun ds ρ2 => ofO ((res ρ2 (d :: ds)).bind op) ρ2 else .stuck else .stuck := by
  unfold mBm
  split
  · first | rfl | (congr 1; funext d ρ1; split <;> first | rfl | (congr 1; funext ds ρ2; unfold ofO; cases (res ρ2 (d :: ds)).bind op <;> rfl))
  · rfl
theorem mTake_e {as : List Opd} {k : List OD → Option OD} {ρ : Env} : mTake as k ρ = if okPl ρ as = true then (evAll as ρ).bind fun ds ρ' => match takeAll ds ρ' with
    | some r => ofO (k r.1) r.2
    | none => .stuck else .stuck := by
  unfold mTake
  split
  · congr 1; funext ds ρ'
    cases takeAll ds ρ' with
    | none => rfl
    | some r =>
      simp only [ofO]
      try (cases k r.1 <;> rfl)
  · rfl
theorem mC_e {d : D} {ρ : Env} : mC d ρ = .ok (.v d) ρ := nr rfl
def gotV (x : Option (Option OD)) : M OD := fun ρ => match x with
  | some (some (.v d)) => .ok (.v d) ρ
  | _ => .stuck
@[simp] theorem gotV_some {d : D} {ρ : Env} : gotV (some (some (.v d))) ρ = .ok (.v d) ρ := nr rfl
theorem mVar_e {i : Nat} {ρ : Env} : mVar i ρ = gotV (ρ[i]?) ρ := by unfold mVar gotV; rfl
theorem mMv_e {i : Nat} {ρ : Env} : mMv i ρ = match ρ[i]? with
  | some (some od) => .ok od (ρ.set i none)
  | _ => .stuck := rfl
theorem mFz_e {f : M OD} {ρ : Env} : mFz f ρ = (f ρ).bind fun od ρ' => .ok (.v od.fz) ρ' := nr rfl
def isB (od : OD) : M Bool := fun ρ => match od with
  | .v (.bl b) => .ok b ρ
  | _ => .stuck
@[simp] theorem isB_bl {b : Bool} {ρ : Env} : isB (.v (.bl b)) ρ = .ok b ρ := nr rfl
theorem asB_e {f : M OD} {ρ : Env} : asB f ρ = (f ρ).bind isB := nr rfl
theorem mB_e {f : M Bool} {ρ : Env} : mB f ρ = (f ρ).bind fun b ρ' => .ok (.v (.bl b)) ρ' := nr rfl
theorem bAnd_e {f g : M Bool} {ρ : Env} : bAnd f g ρ = (f ρ).bind fun b ρ' => if b = true then g ρ' else .ok false ρ' := nr rfl
theorem bOr_e {f g : M Bool} {ρ : Env} : bOr f g ρ = (f ρ).bind fun b ρ' => if b = true then .ok true ρ' else g ρ' := nr rfl
theorem bNot_e {f : M Bool} {ρ : Env} : bNot f ρ = (f ρ).bind fun b ρ' => .ok (!b) ρ' := nr rfl
theorem mIf_e {α : Type} {c : M Bool} {f g : M α} {ρ : Env} : mIf c f g ρ = (c ρ).bind fun b ρ' => if b = true then f ρ' else g ρ' := nr rfl
theorem zNext_e {ρ : Env} : zNext ρ = .ok .nx ρ := nr rfl
theorem zBreak_e {ρ : Env} : zBreak ρ = .ok .bk ρ := nr rfl
theorem zCont_e {ρ : Env} : zCont ρ = .ok .ct ρ := nr rfl
def thenS (g : SM) (fl : Fl) : SM := fun ρ => match fl with
  | .nx => g ρ
  | .rt od => .ok (.rt od) ρ
  | .bk => .ok .bk ρ
  | .ct => .ok .ct ρ
@[simp] theorem thenS_nx {g : SM} {ρ : Env} : thenS g .nx ρ = g ρ := nr rfl
@[simp] theorem thenS_rt {g : SM} {od : OD} {ρ : Env} : thenS g (.rt od) ρ = .ok (.rt od) ρ := nr rfl
@[simp] theorem thenS_bk {g : SM} {ρ : Env} : thenS g .bk ρ = .ok .bk ρ := nr rfl
@[simp] theorem thenS_ct {g : SM} {ρ : Env} : thenS g .ct ρ = .ok .ct ρ := nr rfl
theorem zSeq_e {f g : SM} {ρ : Env} : zSeq f g ρ = (f ρ).bind (thenS g) := by
  unfold zSeq; congr 1; funext fl ρ'; cases fl <;> rfl
theorem zSet_e {i : Nat} {f : M OD} {ρ : Env} : zSet i f ρ = (f ρ).bind fun od ρ' => if i < ρ'.length then .ok .nx (ρ'.set i (some od)) else .stuck := nr rfl
theorem zRet_e {f : M OD} {ρ : Env} : zRet f ρ = (f ρ).bind fun od ρ' => .ok (.rt od) ρ' := nr rfl
theorem zRetN_e {ρ : Env} : zRetN ρ = .ok (.rt (.v .non)) ρ := nr rfl
theorem zDrop_e {f : M OD} {ρ : Env} : zDrop f ρ = (f ρ).bind fun _ ρ' => .ok .nx ρ' := nr rfl
theorem zIf_e {c : M Bool} {f g : SM} {ρ : Env} : zIf c f g ρ = (c ρ).bind fun b ρ' => if b = true then f ρ' else g ρ' := nr rfl
def putS (i : Nat) (ρ : Env) (v ix : OD) : Option Env := match ix, ρ[i]?.join with
  | .v x, some od => (putIx od x v).map fun od' => ρ.set i (some od')
  | _, _ => none
theorem zSetIx_e {i : Nat} {fv fi : M OD} {ρ : Env} : zSetIx i fv fi ρ = (fv ρ).bind fun v ρ1 => if slotIs ρ1 i = true then (fi ρ1).bind fun ix ρ2 => ofS (putS i ρ2 v ix) else .stuck := by
  unfold zSetIx
  congr 1; funext v ρ1
  split
  · congr 1; funext ix ρ2
    unfold putS
    cases ix with
    | v x =>
      cases ρ2[i]?.join with
      | none => rfl
      | some od => simp only [ofS]; cases putIx od x v <;> rfl
    | _ => rfl
  · rfl
theorem zForIn_e {it : M (List D)} {tg : Tgt} {f : SM} {ρ : Env} : zForIn it tg f ρ = (it ρ).bind fun ds ρ' => zFor tg f ds ρ' := nr rfl
theorem zFor_nil {tg : Tgt} {f : SM} {ρ : Env} : zFor tg f [] ρ = .ok .nx ρ := nr rfl
def forS (o : Option Env) (f : SM) (k : Fl → SM) : Out Fl := match o with
  | some ρ1 => (f ρ1).bind k
  | none => .stuck
@[simp] theorem forS_some {ρ : Env} {f : SM} {k : Fl → SM} : forS (some ρ) f k = (f ρ).bind k := nr rfl
theorem zFor_cons {tg : Tgt} {f : SM} {d : D} {ds : List D} {ρ : Env} : zFor tg f (d :: ds) ρ = forS (tg.put d ρ) f (zLoop (zFor tg f ds)) := by
  show (match tg.put d ρ with | some ρ1 => (f ρ1).bind (zLoop (zFor tg f ds)) | none => .stuck) = _
  unfold forS
  rfl
@[simp] theorem zLoop_nx {r : SM} : zLoop r .nx = r := nr rfl
@[simp] theorem zLoop_ct {r : SM} : zLoop r .ct = r := nr rfl
@[simp] theorem zLoop_bk {r : SM} : zLoop r .bk = fun ρ => .ok .nx ρ := nr rfl
@[simp] theorem zLoop_rt {r : SM} {od : OD} : zLoop r (.rt od) = fun ρ => .ok (.rt od) ρ := nr rfl
def ofI (o : Option (List D)) : M (List D) := fun ρ => match o with
  | some ds => .ok ds ρ
  | none => .stuck
@[simp] theorem ofI_some {ds : List D} {ρ : Env} : ofI (some ds) ρ = .ok ds ρ := nr rfl
theorem zIt_e {f : M OD} {ρ : Env} : zIt f ρ = (f ρ).bind fun od ρ' => ofI (items od.fz) ρ' := by
  unfold zIt; congr 1
def rng1 (od : OD) : Option (List D) := match od with
  | .v (.int n) => if -(2 ^ 62) ≤ n ∧ n < 2 ^ 62 then some (rngD 0 n.toNat) else none
  | _ => none
theorem zRng1_e {f : M OD} {ρ : Env} : zRng1 f ρ = (f ρ).bind fun od ρ' => ofI (rng1 od) ρ' := by
  unfold zRng1; congr 1; funext od ρ'
  cases od with
  | v d =>
    cases d with
    | int n =>
      show (if -(2 ^ 62) ≤ n ∧ n < 2 ^ 62 then Out.ok (rngD 0 n.toNat) ρ' else Out.stuck) = ofI (if -(2 ^ 62) ≤ n ∧ n < 2 ^ 62 then some (rngD 0 n.toNat) else none) ρ'
      split <;> rfl
    | _ => rfl
  | _ => rfl
theorem rng1_int {n : Int} (h : -(2 ^ 62) ≤ n ∧ n < 2 ^ 62) : rng1 (.v (.int n)) = some (rngD 0 n.toNat) := if_pos h
def callO (o : Option (List OD × Env)) (f : FnM) (ds : List DV) : Out OD := match o with
  | some r => match f r.1 with
    | .ok od bk => .ok od (putBack ds bk r.2)
    | .exc x bk => .exc x (putBack ds bk r.2)
    | .stuck => .stuck
  | none => .stuck
def retO (o : Out OD) (ds : List DV) (ρ : Env) : Out OD := match o with
  | .ok od bk => .ok od (putBack ds bk ρ)
  | .exc x bk => .exc x (putBack ds bk ρ)
  | .stuck => .stuck
@[simp] theorem retO_ok {od : OD} {bk : Env} {ds : List DV} {ρ : Env} : retO (.ok od bk) ds ρ = .ok od (putBack ds bk ρ) := nr rfl
@[simp] theorem retO_exc {x : XV} {bk : Env} {ds : List DV} {ρ : Env} : retO (.exc x bk) ds ρ = .exc x (putBack ds bk ρ) := nr rfl
theorem callO_some {ods : List OD} {ρ : Env} {f : FnM} {ds : List DV} : callO (some (ods, ρ)) f ds = retO (f ods) ds ρ := nr rfl
theorem mCall_e {f : FnM} {as : List Opd} {ρ : Env} : mCall f as ρ = if okPl ρ as = true then (evAll as ρ).bind fun ds ρ' => callO (takeAll ds ρ') f ds else .stuck := by
  unfold mCall
  split
  · congr 1; funext ds ρ'
    unfold doCall callO
    cases takeAll ds ρ' with
    | none => rfl
    | some r => rfl
  · rfl
def takeP (x : Option (Option OD)) (ds : List DV) (ρ : Env) (i : Nat) : Option (List OD × Env) := match x with
  | some (some od) => (takeAll ds (ρ.set i none)).map fun r => (od :: r.1, r.2)
  | _ => none
@[simp] theorem takeP_some {od : OD} {ds : List DV} {ρ : Env} {i : Nat} : takeP (some (some od)) ds ρ i = (takeAll ds (ρ.set i none)).map fun r => (od :: r.1, r.2) := nr rfl
theorem takeAll_nil {ρ : Env} : takeAll [] ρ = some ([], ρ) := nr rfl
theorem takeAll_own {od : OD} {ds : List DV} {ρ : Env} : takeAll (.own od :: ds) ρ = (takeAll ds ρ).map fun r => (.v od.fz :: r.1, r.2) := nr rfl
theorem takeAll_plc {i : Nat} {ds : List DV} {ρ : Env} : takeAll (.plc i :: ds) ρ = takeP (ρ[i]?) ds ρ i := nr rfl
def putP (x : Option (Option OD)) (y : Option OD) (ρ : Env) (i : Nat) : Env := match x with
  | some none => ρ.set i y
  | _ => ρ
@[simp] theorem putP_none {y : Option OD} {ρ : Env} {i : Nat} : putP (some none) y ρ i = ρ.set i y := nr rfl
theorem putBack_plc {i : Nat} {ds : List DV} {x : Option OD} {bk ρ : Env} : putBack (.plc i :: ds) (x :: bk) ρ = putBack ds bk (putP (ρ[i]?) x ρ i) := nr rfl
theorem putBack_own {od : OD} {ds : List DV} {x : Option OD} {bk ρ : Env} : putBack (.own od :: ds) (x :: bk) ρ = putBack ds bk ρ := nr rfl
theorem putBack_nil {bk ρ : Env} : putBack [] bk ρ = ρ := by cases bk <;> rfl
def retD (mask : List Bool) (o : Out Fl) : Out OD := match o with
  | .ok (.rt od) ρ' => .ok od (back mask ρ')
  | .ok .nx ρ' => .ok (.v .non) (back mask ρ')
  | .ok _ _ => .stuck
  | .exc x ρ' => .exc x (back mask ρ')
  | .stuck => .stuck
@[simp] theorem retD_rt {mask : List Bool} {od : OD} {ρ : Env} : retD mask (.ok (.rt od) ρ) = .ok od (back mask ρ) := nr rfl
@[simp] theorem retD_nx {mask : List Bool} {ρ : Env} : retD mask (.ok .nx ρ) = .ok (.v .non) (back mask ρ) := nr rfl
@[simp] theorem retD_exc {mask : List Bool} {x : XV} {ρ : Env} : retD mask (.exc x ρ) = .exc x (back mask ρ) := nr rfl
theorem defM_e {n : Nat} {mask : List Bool} {m : SM} {ods : List OD} : defM n mask m ods = if ods.length = mask.length then retD mask (m (ods.map some ++ List.replicate (n - ods.length) none)) else .stuck := by
  unfold defM
  split
  · cases m (ods.map some ++ List.replicate (n - ods.length) none) with
    | ok fl ρ => cases fl <;> rfl
    | _ => rfl
  · rfl
namespace N
theorem Out_bind_ok {α β : Type} {a : α} {ρ : Env} {k : α → M β} : (Out.ok a ρ).bind k = k a ρ := nr rfl
theorem Out_bind_exc {α β : Type} {a : XV} {ρ : Env} {k : α → M β} : (Out.exc a ρ).bind k = .exc a ρ := nr rfl
theorem Out_bind_stuck {α β : Type} {k : α → M β} : (Out.stuck).bind k = .stuck := nr rfl
theorem Option_map_some {α β : Type} {a : α} {f : α → β} : Option.map f (some a) = some (f a) := nr rfl
theorem Option_map_none {α β : Type} {f : α → β} : Option.map f none = none := nr rfl
theorem Option_bind_some {α β : Type} {a : α} {f : α → Option β} : Option.bind (some a) f = f a := nr rfl
theorem Option_bind_none {α β : Type} {f : α → Option β} : Option.bind none f = none := nr rfl
theorem Option_join_some {α : Type} {a : Option α} : Option.join (some a) = a := nr rfl
theorem Option_isSome_some {α : Type} {a : α} : (some a).isSome = true := nr rfl
theorem List_length_cons {α : Type} {a : α} {as : List α} : (a :: as).length = as.length + 1 := nr rfl
theorem List_length_nil {α : Type} : ([] : List α).length = 0 := nr rfl
theorem List_map_cons {α β : Type} {f : α → β} {a : α} {as : List α} : (a :: as).map f = f a :: as.map f := nr rfl
theorem List_map_nil {α β : Type} {f : α → β} : ([] : List α).map f = [] := nr rfl
theorem List_cons_append {α : Type} {a : α} {as bs : List α} : (a :: as) ++ bs = a :: (as ++ bs) := nr rfl
theorem List_nil_append {α : Type} {as : List α} : [] ++ as = as := nr rfl
theorem List_getElemQ_cons_zero {α : Type} {a : α} {as : List α} : (a :: as)[0]? = some a := nr rfl
theorem List_getElemQ_cons_succ {α : Type} {a : α} {as : List α} {i : Nat} : (a :: as)[i + 1]? = as[i]? := nr rfl
theorem List_set_cons_zero {α : Type} {a b : α} {as : List α} : (a :: as).set 0 b = b :: as := nr rfl
theorem List_set_cons_succ {α : Type} {a b : α} {as : List α} {i : Nat} : (a :: as).set (i + 1) b = a :: as.set i b := nr rfl
end N
/-! operations on given kinds -/
theorem opIx_lst {ds : List D} {i : Int} : opIx [.lst ds, .int i] = (atI ds i).map .v := nr rfl
theorem opIx_rol {ds : List D} {i : Int} : opIx [.rol ds, .int i] = (atI ds i).map .v := nr rfl
theorem opIx_tup {ds : List D} {i : Int} : opIx [.tup ds, .int i] = (atI ds i).map .v := nr rfl
theorem opIx_str {s : Str} {i : Int} (h : s.length ≤ sizeLine) : opIx [.str s, .int i] = (atI s.cps.toList i).map fun c => OD.v (.str ⟨#[c]⟩) := by
  show ((if s.length ≤ sizeLine then (atI s.cps.toList i).map fun c => D.str ⟨#[c]⟩ else none).map OD.v) = _
  rw [if_pos h, Option.map_map]; rfl
theorem atI_nat {α : Type} {xs : List α} {i : Int} (h0 : 0 ≤ i) : atI xs i = xs[i.toNat]? := by
  unfold atI ixN
  rw [if_pos h0]
  by_cases h1 : i < xs.length
  · rw [if_pos h1]; rfl
  · rw [if_neg h1]
    exact (List.getElem?_eq_none (by omega)).symm
theorem atI_ofNat {α : Type} {xs : List α} {i : Nat} : atI xs (i : Int) = xs[i]? := by rw [atI_nat (by omega)]; simp
theorem ixN_nat {n k : Nat} : ixN n (k : Int) = if k < n then some k else none := by
  unfold ixN
  rw [if_pos (by omega)]
  by_cases h : k < n
  · rw [if_pos (by omega), if_pos h]; simp
  · rw [if_neg (by omega), if_neg h]
theorem ixN_lit {n k : Nat} : ixN n (OfNat.ofNat k : Int) = if k < n then some k else none := ixN_nat
theorem atI_lit {α : Type} {xs : List α} {k : Nat} : atI xs (OfNat.ofNat k : Int) = xs[k]? := atI_ofNat
theorem atI_0 {α : Type} {xs : List α} : atI xs 0 = xs[0]? := atI_ofNat (i := 0)
theorem ixN_0 {n : Nat} : ixN n 0 = if 0 < n then some 0 else none := ixN_nat (k := 0)
theorem atI_1 {α : Type} {xs : List α} : atI xs 1 = xs[1]? := atI_ofNat (i := 1)
theorem ixN_1 {n : Nat} : ixN n 1 = if 1 < n then some 1 else none := ixN_nat (k := 1)
theorem atI_2 {α : Type} {xs : List α} : atI xs 2 = xs[2]? := atI_ofNat (i := 2)
theorem ixN_2 {n : Nat} : ixN n 2 = if 2 < n then some 2 else none := ixN_nat (k := 2)
theorem atI_3 {α : Type} {xs : List α} : atI xs 3 = xs[3]? := atI_ofNat (i := 3)
theorem ixN_3 {n : Nat} : ixN n 3 = if 3 < n then some 3 else none := ixN_nat (k := 3)
theorem atI_4 {α : Type} {xs : List α} : atI xs 4 = xs[4]? := atI_ofNat (i := 4)
theorem ixN_4 {n : Nat} : ixN n 4 = if 4 < n then some 4 else none := ixN_nat (k := 4)
theorem atI_5 {α : Type} {xs : List α} : atI xs 5 = xs[5]? := atI_ofNat (i := 5)
theorem ixN_5 {n : Nat} : ixN n 5 = if 5 < n then some 5 else none := ixN_nat (k := 5)
theorem atI_6 {α : Type} {xs : List α} : atI xs 6 = xs[6]? := atI_ofNat (i := 6)
theorem ixN_6 {n : Nat} : ixN n 6 = if 6 < n then some 6 else none := ixN_nat (k := 6)
theorem atI_7 {α : Type} {xs : List α} : atI xs 7 = xs[7]? := atI_ofNat (i := 7)
theorem ixN_7 {n : Nat} : ixN n 7 = if 7 < n then some 7 else none := ixN_nat (k := 7)
theorem atI_8 {α : Type} {xs : List α} : atI xs 8 = xs[8]? := atI_ofNat (i := 8)
theorem ixN_8 {n : Nat} : ixN n 8 = if 8 < n then some 8 else none := ixN_nat (k := 8)
theorem atI_9 {α : Type} {xs : List α} : atI xs 9 = xs[9]? := atI_ofNat (i := 9)
theorem ixN_9 {n : Nat} : ixN n 9 = if 9 < n then some 9 else none := ixN_nat (k := 9)
theorem atI_10 {α : Type} {xs : List α} : atI xs 10 = xs[10]? := atI_ofNat (i := 10)
theorem ixN_10 {n : Nat} : ixN n 10 = if 10 < n then some 10 else none := ixN_nat (k := 10)
theorem atI_11 {α : Type} {xs : List α} : atI xs 11 = xs[11]? := atI_ofNat (i := 11)
theorem ixN_11 {n : Nat} : ixN n 11 = if 11 < n then some 11 else none := ixN_nat (k := 11)
theorem atI_12 {α : Type} {xs : List α} : atI xs 12 = xs[12]? := atI_ofNat (i := 12)
theorem ixN_12 {n : Nat} : ixN n 12 = if 12 < n then some 12 else none := ixN_nat (k := 12)
theorem atI_13 {α : Type} {xs : List α} : atI xs 13 = xs[13]? := atI_ofNat (i := 13)
theorem ixN_13 {n : Nat} : ixN n 13 = if 13 < n then some 13 else none := ixN_nat (k := 13)
theorem atI_14 {α : Type} {xs : List α} : atI xs 14 = xs[14]? := atI_ofNat (i := 14)
theorem ixN_14 {n : Nat} : ixN n 14 = if 14 < n then some 14 else none := ixN_nat (k := 14)
theorem atI_15 {α : Type} {xs : List α} : atI xs 15 = xs[15]? := atI_ofNat (i := 15)
theorem ixN_15 {n : Nat} : ixN n 15 = if 15 < n then some 15 else none := ixN_nat (k := 15)
theorem opEq_int {i j : Int} : opEq [.int i, .int j] = some (.v (.bl (decide (i = j)))) := by
  rfl
theorem opNe_int {i j : Int} : opNe [.int i, .int j] = some (.v (.bl (!decide (i = j)))) := by
  rfl
theorem opEq_str {i j : Str} : opEq [.str i, .str j] = some (.v (.bl (decide (i = j)))) := by
  simp only [opEq, dEq, toPy, Option.bind_some, PyData.plain, PyData.depth, PyData.eqv]
  by_cases h : i = j <;> simp [h]
theorem opNe_str {i j : Str} : opNe [.str i, .str j] = some (.v (.bl (!decide (i = j)))) := by
  simp only [opNe, dEq, toPy, Option.bind_some, PyData.plain, PyData.depth, PyData.eqv]
  by_cases h : i = j <;> simp [h]
theorem opAdd_int {i j : Int} : opAdd [.int i, .int j] = some (.v (.int (i + j))) := nr rfl
theorem opSub_int {i j : Int} : opSub [.int i, .int j] = some (.v (.int (i - j))) := nr rfl
theorem opMul_int {i j : Int} (h : CMul i j) : opMul [.int i, .int j] = some (.v (.int (i * j))) := by
  show ((if CMul i j then some (D.int (i * j)) else none).map OD.v) = _
  rw [if_pos h]; rfl
theorem opFdv_int {i j : Int} (h : CDivN i j) : opFdv [.int i, .int j] = some (.v (.int (i.fdiv j))) := by
  show ((if CDivN i j then some (D.int (i.fdiv j)) else none).map OD.v) = _
  rw [if_pos h]; rfl
theorem opMod_int {i j : Int} (h : j ≠ 0) : opMod [.int i, .int j] = some (.v (.int (i.fmod j))) := by
  show ((if j ≠ 0 then some (D.int (i.fmod j)) else none).map OD.v) = _
  rw [if_pos h]; rfl
theorem opPow_int {i j : Int} (h : CPow i j) : opPow [.int i, .int j] = some (.v (.int (i ^ j.toNat))) := by
  show ((if CPow i j then some (D.int (i ^ j.toNat)) else none).map OD.v) = _
  rw [if_pos h]; rfl
theorem opPow_10_18 : opPow [.int 10, .int 18] = some (.v (.int 1000000000000000000)) := Eq.trans (show opPow [.int 10, .int 18] = some (.v (.int 1000000000000000000)) from rfl) (Eq.refl _)
theorem opMul_r {i j : Int} (h1 : -18446744073709551616 < j) (h2 : j < 18446744073709551616) : opMul [.int i, .int j] = some (.v (.int (i * j))) := opMul_int (.inr ⟨h1, h2⟩)
theorem opMul_l {i j : Int} (h1 : -18446744073709551616 < i) (h2 : i < 18446744073709551616) : opMul [.int i, .int j] = some (.v (.int (i * j))) := opMul_int (.inl ⟨h1, h2⟩)
theorem opFdv_p {i j : Int} (h1 : 0 < j) (h2 : j < 1073741824) : opFdv [.int i, .int j] = some (.v (.int (i.fdiv j))) := opFdv_int ⟨by omega, by omega⟩
theorem opMod_p {i j : Int} (h1 : 0 < j) : opMod [.int i, .int j] = some (.v (.int (i.fmod j))) := opMod_int (by omega)
theorem opLt_int {i j : Int} : opLt [.int i, .int j] = some (.v (.bl (decide (i < j)))) := nr rfl
theorem opLe_int {i j : Int} : opLe [.int i, .int j] = some (.v (.bl (decide (i ≤ j)))) := nr rfl
theorem opGt_int {i j : Int} : opGt [.int i, .int j] = some (.v (.bl (decide (j < i)))) := nr rfl
theorem opGe_int {i j : Int} : opGe [.int i, .int j] = some (.v (.bl (decide (j ≤ i)))) := nr rfl
theorem dAbs_int {i : Int} : dAbs [.int i] = some (.int (if i < 0 then -i else i)) := nr rfl
theorem dInt_int {i : Int} : dInt [.int i] = some (.int i) := nr rfl
theorem dInt_bl {b : Bool} : dInt [.bl b] = some (.int (if b then 1 else 0)) := nr rfl
theorem dLen_lst {ds : List D} : dLen [.lst ds] = some (.int ds.length) := nr rfl
theorem dLen_rol {ds : List D} : dLen [.rol ds] = some (.int ds.length) := nr rfl
theorem dLen_tup {ds : List D} : dLen [.tup ds] = some (.int ds.length) := nr rfl
theorem opAbs_int {i : Int} : opAbs [.int i] = some (.v (.int (if i < 0 then -i else i))) := nr rfl
theorem opInt_int {i : Int} : opInt [.int i] = some (.v (.int i)) := nr rfl
theorem opInt_bl {b : Bool} : opInt [.bl b] = some (.v (.int (if b then 1 else 0))) := nr rfl
theorem opLen_lst {ds : List D} : opLen [.lst ds] = some (.v (.int ds.length)) := nr rfl
theorem opLen_rol {ds : List D} : opLen [.rol ds] = some (.v (.int ds.length)) := nr rfl
theorem opLen_tup {ds : List D} : opLen [.tup ds] = some (.v (.int ds.length)) := nr rfl
theorem opList_lst {ds : List D} : opList [.lst ds] = some (.l (ds.map .v)) := nr rfl
theorem opList_rol {ds : List D} : opList [.rol ds] = some (.l (ds.map .v)) := nr rfl
theorem opList_tup {ds : List D} : opList [.tup ds] = some (.l (ds.map .v)) := nr rfl
theorem fz_v {d : D} : (OD.v d).fz = d := by simp only [OD.fz]
theorem fz_l {ds : List OD} : (OD.l ds).fz = .lst (OD.fzs ds) := by simp only [OD.fz]
theorem fzs_nil : OD.fzs [] = [] := by simp only [OD.fzs]
theorem fzs_cons {d : OD} {ds : List OD} : OD.fzs (d :: ds) = d.fz :: OD.fzs ds := by simp only [OD.fzs]
theorem fzs_mv {ds : List D} : OD.fzs (ds.map .v) = ds := by
  rw [OD.fzs_map, List.map_map]
  exact (List.map_congr_left fun d _ => fz_v).trans (List.map_id _)
theorem shs_nil : OD.shs [] = some [] := nr rfl
theorem shs_cons {d : D} {xs : List OD} : OD.shs (.v d :: xs) = (OD.shs xs).map fun ds => d :: ds := nr rfl
theorem sh_v {d : D} : (OD.v d).sh = some d := nr rfl
theorem sh_l {xs : List OD} : (OD.l xs).sh = (OD.shs xs).map .lst := nr rfl
theorem ev_val {p : Bool} {f : M OD} {ρ : Env} : (Opd.val p f).ev ρ = (f ρ).bind fun od ρ' => .ok (.own od) ρ' := nr rfl
theorem ev_plc {i : Nat} {ρ : Env} : (Opd.plc i).ev ρ = .ok (.plc i) ρ := nr rfl
theorem evAll_nil {ρ : Env} : evAll [] ρ = .ok [] ρ := nr rfl
theorem evAll_cons {a : Opd} {as : List Opd} {ρ : Env} : evAll (a :: as) ρ = (a.ev ρ).bind fun d ρ1 => (evAll as ρ1).bind fun ds ρ2 => .ok (d :: ds) ρ2 := nr rfl
theorem okPl_nil {ρ : Env} : okPl ρ [] = true := nr rfl
theorem okPl_val {p : Bool} {f : M OD} {as : List Opd} {ρ : Env} : okPl ρ (.val p f :: as) = okPl ρ as := nr rfl
theorem okPl_plc {i : Nat} {as : List Opd} {ρ : Env} : okPl ρ (.plc i :: as) = ((ρ[i]?.join).isSome && okPl ρ as) := nr rfl
theorem res_nil {ρ : Env} : res ρ [] = some [] := nr rfl
theorem res_own {od : OD} {ds : List DV} {ρ : Env} : res ρ (.own od :: ds) = (res ρ ds).map fun xs => od.fz :: xs := nr rfl
theorem res_plc {i : Nat} {ds : List DV} {ρ : Env} : res ρ (.plc i :: ds) = ((ρ[i]?.join).bind OD.sh).bind fun x => (res ρ ds).map fun xs => x :: xs := nr rfl
theorem putS_e {i : Nat} {ρ : Env} {v : OD} {x : D} : putS i ρ v (.v x) = (ρ[i]?.join).bind fun od => (putIx od x v).map fun od' => ρ.set i (some od') := by
  unfold putS
  cases ρ[i]?.join <;> rfl
theorem putIx_l {xs : List OD} {k : Int} {v : OD} : putIx (.l xs) (.int k) v = (ixN xs.length k).map fun j => .l (xs.set j v) := nr rfl
theorem back_nil {ρ : Env} : back [] ρ = [] := nr rfl
theorem back_t {bs : List Bool} {x : Option OD} {ρ : Env} : back (true :: bs) (x :: ρ) = x :: back bs ρ := nr rfl
theorem back_f {bs : List Bool} {x : Option OD} {ρ : Env} : back (false :: bs) (x :: ρ) = none :: back bs ρ := nr rfl
theorem tgt_name {i : Nat} {d : D} {ρ : Env} : (Tgt.name i).put d ρ = if i < ρ.length then some (ρ.set i (some (.v d))) else none := nr rfl
theorem tgt_tup {is : List Nat} {ds : List D} {ρ : Env} : (Tgt.tup is).put (.tup ds) ρ = setAll is ds ρ := nr rfl
theorem setAll_nil {ρ : Env} : setAll [] [] ρ = some ρ := nr rfl
theorem setAll_cons {i : Nat} {is : List Nat} {d : D} {ds : List D} {ρ : Env} : setAll (i :: is) (d :: ds) ρ = if i < ρ.length then setAll is ds (ρ.set i (some (.v d))) else none := nr rfl
theorem items_lst {ds : List D} : items (.lst ds) = some ds := by simp only [items]
theorem items_tup {ds : List D} : items (.tup ds) = some ds := by simp only [items]
theorem items_str {s : Str} : items (.str s) = some (strD s) := by simp only [items]
theorem small_line {n : Nat} (h : n ≤ 1000000) : n ≤ sizeLine := Nat.le_trans h (by decide)
theorem kLst_e {ods : List OD} (h : ods.length ≤ 1000000) : kLst ods = some (.l ((OD.fzs ods).map .v)) := if_pos (small_line h)
theorem kLstO_e {ods : List OD} (h : ods.length ≤ 1000000) : kLstO ods = some (.l ods) := if_pos (small_line h)
theorem kTup_e {ods : List OD} (h : ods.length ≤ 1000000) : kTup ods = some (.v (.tup (OD.fzs ods))) := if_pos (small_line h)
theorem mLst_e {as : List Opd} {ρ : Env} : mLst as ρ = mTake as kLst ρ := nr rfl
theorem mLstO_e {as : List Opd} {ρ : Env} : mLstO as ρ = mTake as kLstO ρ := nr rfl
theorem mTup_e {as : List Opd} {ρ : Env} : mTup as ρ = mTake as kTup ρ := nr rfl
theorem mDict_e {as : List Opd} {ρ : Env} : mDict as ρ = mTake as kDict ρ := nr rfl
theorem wipeE_nil {ρ : Env} : wipeE ρ [] = ρ := nr rfl
theorem wipeE_cons {ρ : Env} {v : Nat} {vs : List Nat} : wipeE ρ (v :: vs) = (wipeE ρ vs).set v none := nr rfl
theorem T_str : ("str" = "") = False := by decide
theorem T_list : ("list" = "") = False := by decide
theorem T_dict : ("dict" = "") = False := by decide
theorem T_int : ("int" = "") = False := by decide
end Vs
namespace VsEv
open Vs PySem L2
end VsEv
namespace Vs
open PySem L2
/-- a loop with an invariant of what is left and of the slots -/
theorem for_step {tg : Tgt} {f : SM} {I : List D → Env → Prop} (h : ∀ d ds ρ, I (d :: ds) ρ → ∃ ρ1 ρ2, tg.put d ρ = some ρ1 ∧ f ρ1 = .ok .nx ρ2 ∧ I ds ρ2) : ∀ ds ρ, I ds ρ → ∃ ρ', zFor tg f ds ρ = .ok .nx ρ' ∧ I [] ρ'
  | [], ρ, i => ⟨ρ, rfl, i⟩
  | d :: ds, ρ, i => by
    obtain ⟨ρ1, ρ2, e1, e2, i2⟩ := h d ds ρ i
    obtain ⟨ρ', e3, i3⟩ := for_step h ds ρ2 i2
    refine ⟨ρ', ?_, i3⟩
    rw [zFor_cons, e1, forS_some, e2, Out.bind_ok]
    exact e3
theorem comp_step {tg : Tgt} {vs : List Nat} {e : M OD} {I : Env → Prop} {P : D → Prop} (h : ∀ d ρ, I ρ → ∃ ρ1 od ρ2, tg.put d (wipeE ρ vs) = some ρ1 ∧ e ρ1 = .ok od ρ2 ∧ P od.fz ∧ I (wipeE ρ2 vs)) :
    ∀ ds acc ρ, acc.length + ds.length ≤ sizeLine → (∀ d ∈ acc, P d) → I ρ → ∃ out ρ', cLoop tg vs bYes e ds acc ρ = .ok out ρ' ∧ I ρ' ∧ (∀ d ∈ out, P d) ∧ out.length = acc.length + ds.length
  | [], acc, ρ, _, ha, i => ⟨acc, ρ, rfl, i, ha, rfl⟩
  | d :: ds, acc, ρ, hl, ha, i => by
    obtain ⟨ρ1, od, ρ2, e1, e2, p, i2⟩ := h d ρ i
    have hl' : acc.length + (ds.length + 1) ≤ sizeLine := hl
    obtain ⟨out, ρ', e3, i3, h3, l3⟩ := comp_step h ds (acc ++ [od.fz]) (wipeE ρ2 vs) (by simp; omega) (by intro x hx; rcases List.mem_append.mp hx with y | y; exact ha x y; rw [List.mem_singleton.mp y]; exact p) i2
    refine ⟨out, ρ', ?_, i3, h3, by simp at l3 ⊢; omega⟩
    show (match tg.put d (wipeE ρ vs) with
    | some ρ1 => match bYes ρ1 with
      | .ok true ρ2 => match e ρ2 with
        | .ok od ρ3 => if acc.length < sizeLine then cLoop tg vs bYes e ds (acc ++ [od.fz]) (wipeE ρ3 vs) else .stuck
        | _ => .stuck
      | .ok false ρ2 => cLoop tg vs bYes e ds acc (wipeE ρ2 vs)
      | _ => .stuck
    | none => .stuck) = _
    rw [e1]
    show (match e ρ1 with
        | .ok od ρ3 => if acc.length < sizeLine then cLoop tg vs bYes e ds (acc ++ [od.fz]) (wipeE ρ3 vs) else .stuck
        | _ => .stuck) = _
    rw [e2]
    show (if acc.length < sizeLine then cLoop tg vs bYes e ds (acc ++ [od.fz]) (wipeE ρ2 vs) else .stuck) = _
    rw [if_pos (by omega)]
    exact e3
theorem mComp_e {it : M (List D)} {tg : Tgt} {vs : List Nat} {c : M Bool} {e : M OD} {ρ : Env} : mComp it tg vs c e ρ = (it ρ).bind fun ds ρ1 => (cLoop tg vs c e ds [] (wipeE ρ1 vs)).bind fun acc ρ2 => .ok (.l (acc.map .v)) ρ2 := nr rfl
theorem opOrd_1 {c : Nat} : opOrd [.str ⟨#[c]⟩] = some (.v (.int c)) := nr rfl
theorem textsD_map : ∀ ys : List Str, textsD (ys.map .str) = some ys
  | [] => rfl
  | y :: ys => by simp [textsD, textsD_map ys]
theorem opJoin_strs {a : Str} {ys : List Str} (h : (ys.map (·.length)).sum + ys.length * a.length ≤ 16777216) : opJoin [.str a, .lst (ys.map .str)] = some (.v (.str (Txt.join a ys))) := by
  show (((textsD (ys.map .str)).bind fun ys => if (ys.map (·.length)).sum + ys.length * a.length ≤ 16777216 then some (D.str (Txt.join a ys)) else none).map OD.v) = _
  rw [textsD_map]
  show ((if (ys.map (·.length)).sum + ys.length * a.length ≤ 16777216 then some (D.str (Txt.join a ys)) else none).map OD.v) = _
  rw [if_pos h]; rfl
end Vs
namespace Lw
open PySem L2 Vs
def top (i : Nat) : Stmt := PySem.Challenge.pw_hewstream_k95_states_of_reading.main.body.getD i (.Pass ⟨0, 0, 0, 0⟩)
def c_FIRST_SIGN : D := .int 32
def c_LAST_SIGN : D := .int 126
def c_NO_SIGN : D := .int 37
def c_SIGNS : D := .str " !\"#$ &'()*+,-./0123456789:;<=>?@ABCDEFGHIJKLMNOPQRSTUVWXYZ[\\]^_`abcdefghijklmnopqrstuvwxyz{|}~"
def c_STATES : D := .tup [.str "text", .str "less", .str "bang", .str "bangs", .str "comment", .str "dash", .str "dashes", .str "tag", .str "value", .str "entity"]
abbrev st_sign_of : Stmt := top 5
def dd_sign_of : He.DefD := ⟨("sign_of", none), "sign_of", "sign_of", defArgs st_sign_of, defBody st_sign_of, defScope st_sign_of, [], []⟩
def N_sign_of : List Str := ["byte"]
def m_sign_of : SM := (zSeq (zIf (asB (mApp opEq [.val true (mVar 0), .val true (mC (.int 9))])) (zRet (mC (.str "\t"))) zNext) (zSeq (zIf (asB (mApp opEq [.val true (mVar 0), .val true (mC (.int 10))])) (zRet (mC (.str "\n"))) zNext) (zSeq (zIf (bAnd (mChain gLe gLe (mC c_FIRST_SIGN) (mVar 0) (mC c_LAST_SIGN)) (asB (mApp opNe [.val true (mVar 0), .val true (mC c_NO_SIGN)]))) (zRet (mApp opIx [.val true (mC c_SIGNS), .val true (mApp opSub [.val true (mVar 0), .val true (mC c_FIRST_SIGN)])])) zNext) (zRet (mC .non)))))
def F_sign_of : FnM := defM 1 [false] m_sign_of
abbrev st_next_state : Stmt := top 8
def dd_next_state : He.DefD := ⟨("next_state", none), "next_state", "next_state", defArgs st_next_state, defBody st_next_state, defScope st_next_state, [], []⟩
def N_next_state : List Str := ["state", "byte", "sign"]
def m_next_state : SM := (zSeq (zSet 2 (mFz (mCall F_sign_of [.val true (mVar 1)]))) (zSeq (zIf (asB (mApp opEq [.val true (mVar 0), .val true (mC (.str "text"))])) (zRet (mBm "dict" opGet2 (.val true (mDict (flatP [(.val true (mC (.str "<")), .val true (mC (.str "less"))), (.val true (mC (.str "&")), .val true (mC (.str "entity")))]))) [.val true (mVar 2), .val true (mC (.str "text"))])) zNext) (zSeq (zIf (asB (mApp opEq [.val true (mVar 0), .val true (mC (.str "less"))])) (zRet (mBm "dict" opGet2 (.val true (mDict (flatP [(.val true (mC (.str "!")), .val true (mC (.str "bang")))]))) [.val true (mVar 2), .val true (mC (.str "tag"))])) zNext) (zSeq (zIf (asB (mApp opEq [.val true (mVar 0), .val true (mC (.str "comment"))])) (zRet (mBm "dict" opGet2 (.val true (mDict (flatP [(.val true (mC (.str "-")), .val true (mC (.str "dash")))]))) [.val true (mVar 2), .val true (mC (.str "comment"))])) zNext) (zSeq (zIf (asB (mApp opEq [.val true (mVar 0), .val true (mC (.str "dash"))])) (zRet (mBm "dict" opGet2 (.val true (mDict (flatP [(.val true (mC (.str "-")), .val true (mC (.str "dashes")))]))) [.val true (mVar 2), .val true (mC (.str "comment"))])) zNext) (zSeq (zIf (asB (mApp opEq [.val true (mVar 0), .val true (mC (.str "tag"))])) (zRet (mBm "dict" opGet2 (.val true (mDict (flatP [(.val true (mC (.str "\"")), .val true (mC (.str "value"))), (.val true (mC (.str ">")), .val true (mC (.str "text")))]))) [.val true (mVar 2), .val true (mC (.str "tag"))])) zNext) (zSeq (zIf (asB (mApp opEq [.val true (mVar 0), .val true (mC (.str "value"))])) (zRet (mBm "dict" opGet2 (.val true (mDict (flatP [(.val true (mC (.str "\"")), .val true (mC (.str "tag")))]))) [.val true (mVar 2), .val true (mC (.str "value"))])) zNext) (zSeq (zIf (asB (mApp opEq [.val true (mVar 0), .val true (mC (.str "entity"))])) (zRet (mBm "dict" opGet2 (.val true (mDict (flatP [(.val true (mC (.str ";")), .val true (mC (.str "text")))]))) [.val true (mVar 2), .val true (mC (.str "entity"))])) zNext) (zRet (mApp opIx [.val true (mDict (flatP [(.val true (mC (.str "bang")), .val true (mC (.str "bangs"))), (.val true (mC (.str "bangs")), .val true (mC (.str "comment"))), (.val true (mC (.str "dashes")), .val true (mC (.str "text")))])), .val true (mVar 0)]))))))))))
def F_next_state : FnM := defM 3 [false, false] m_next_state
abbrev st__law_draw : Stmt := top 10
def dd__law_draw : He.DefD := ⟨("_law_draw", none), "_law_draw", "_law_draw", defArgs st__law_draw, defBody st__law_draw, defScope st__law_draw, [], []⟩
def N__law_draw : List Str := ["_law_tape", "_law_many", "_law_cell", "_law_mixed", "_law_rest"]
def m__law_draw : SM := (zSeq (zIf (asB (mApp opEq [.val true (mApp opIx [.plc 0, .val true (mC (.int 0))]), .val true (mC (.int 0))])) (zSeq (zSet 2 (mC (.int 0))) (zSeq (zIf (asB (mApp opLt [.val true (mApp opIx [.plc 0, .val true (mC (.int 2))]), .val true (mApp opLen [.val true (mApp opIx [.plc 0, .val true (mC (.int 1))])])])) (zSet 2 (mApp opAbs [.val true (mApp opInt [.val true (mApp opIx [.val true (mApp opIx [.plc 0, .val true (mC (.int 1))]), .val true (mApp opIx [.plc 0, .val true (mC (.int 2))])])])])) zNext) (zSeq (zSetIx 0 (mFz (mApp opAdd [.val true (mApp opIx [.plc 0, .val true (mC (.int 2))]), .val true (mC (.int 1))])) (mC (.int 2))) (zSeq (zSetIx 0 (mVar 2) (mC (.int 0))) (zIf (asB (mApp opLt [.val true (mVar 2), .val true (mApp opPow [.val true (mC (.int 10)), .val true (mC (.int 18))])])) (zSeq (zSet 3 (mApp opMod [.val true (mApp opInt [.val true (mApp opAdd [.val true (mApp opAdd [.val true (mApp opMul [.val true (mVar 2), .val true (mC (.int 48271))]), .val true (mApp opMul [.val true (mApp opIx [.plc 0, .val true (mC (.int 2))]), .val true (mC (.int 69621))])]), .val true (mC (.int 12345))])]), .val true (mC (.int 2147483647))])) (zSetIx 0 (mFz (mApp opAdd [.val true (mApp opMul [.val true (mVar 3), .val true (mC (.int 2147483629))]), .val true (mApp opMod [.val true (mApp opInt [.val true (mApp opAdd [.val true (mApp opMul [.val true (mVar 3), .val true (mC (.int 16807))]), .val true (mC (.int 11))])]), .val true (mC (.int 2147483629))])])) (mC (.int 0)))) zNext))))) zNext) (zSeq (zSet 4 (mApp opIx [.plc 0, .val true (mC (.int 0))])) (zSeq (zSetIx 0 (mApp opFdv [.val true (mVar 4), .val true (mVar 1)]) (mC (.int 0))) (zRet (mApp opMod [.val true (mApp opInt [.val true (mVar 4)]), .val true (mVar 1)])))))
def F__law_draw : FnM := defM 5 [true, false] m__law_draw
abbrev st__law_pick : Stmt := top 11
def dd__law_pick : He.DefD := ⟨("_law_pick", none), "_law_pick", "_law_pick", defArgs st__law_pick, defBody st__law_pick, defScope st__law_pick, [], []⟩
def N__law_pick : List Str := ["_law_tape", "_law_row"]
def m__law_pick : SM := (zRet (mApp opIx [.val true (mVar 1), .val false (mCall F__law_draw [.plc 0, .val true (mApp opLen [.val true (mVar 1)])])]))
def F__law_pick : FnM := defM 2 [true, false] m__law_pick
abbrev st__law_next : Stmt := top 12
def dd__law_next : He.DefD := ⟨("_law_next", none), "_law_next", "_law_next", defArgs st__law_next, defBody st__law_next, defScope st__law_next, [], []⟩
def N__law_next : List Str := ["_law_state", "_law_byte"]
def m__law_next : SM := (zSeq (zIf (asB (mApp opEq [.val true (mVar 0), .val true (mC (.str "text"))])) (zSeq (zIf (asB (mApp opEq [.val true (mVar 1), .val true (mC (.int 60))])) (zRet (mC (.str "less"))) zNext) (zRet (mApp opIx [.val true (mLst [.val true (mC (.str "text")), .val true (mC (.str "entity"))]), .val true (mApp opInt [.val true (mApp opEq [.val true (mVar 1), .val true (mC (.int 38))])])]))) zNext) (zSeq (zIf (asB (mApp opEq [.val true (mVar 0), .val true (mC (.str "less"))])) (zRet (mApp opIx [.val true (mLst [.val true (mC (.str "tag")), .val true (mC (.str "bang"))]), .val true (mApp opInt [.val true (mApp opEq [.val true (mVar 1), .val true (mC (.int 33))])])])) zNext) (zSeq (zIf (asB (mApp opEq [.val true (mVar 0), .val true (mC (.str "comment"))])) (zRet (mApp opIx [.val true (mLst [.val true (mC (.str "comment")), .val true (mC (.str "dash"))]), .val true (mApp opInt [.val true (mApp opEq [.val true (mVar 1), .val true (mC (.int 45))])])])) zNext) (zSeq (zIf (asB (mApp opEq [.val true (mVar 0), .val true (mC (.str "dash"))])) (zRet (mApp opIx [.val true (mLst [.val true (mC (.str "comment")), .val true (mC (.str "dashes"))]), .val true (mApp opInt [.val true (mApp opEq [.val true (mVar 1), .val true (mC (.int 45))])])])) zNext) (zSeq (zIf (asB (mApp opEq [.val true (mVar 0), .val true (mC (.str "tag"))])) (zSeq (zIf (asB (mApp opEq [.val true (mVar 1), .val true (mC (.int 62))])) (zRet (mC (.str "text"))) zNext) (zRet (mApp opIx [.val true (mLst [.val true (mC (.str "tag")), .val true (mC (.str "value"))]), .val true (mApp opInt [.val true (mApp opEq [.val true (mVar 1), .val true (mC (.int 34))])])]))) zNext) (zSeq (zIf (asB (mApp opEq [.val true (mVar 0), .val true (mC (.str "value"))])) (zRet (mApp opIx [.val true (mLst [.val true (mC (.str "value")), .val true (mC (.str "tag"))]), .val true (mApp opInt [.val true (mApp opEq [.val true (mVar 1), .val true (mC (.int 34))])])])) zNext) (zSeq (zIf (asB (mApp opEq [.val true (mVar 0), .val true (mC (.str "entity"))])) (zRet (mApp opIx [.val true (mLst [.val true (mC (.str "entity")), .val true (mC (.str "text"))]), .val true (mApp opInt [.val true (mApp opEq [.val true (mVar 1), .val true (mC (.int 59))])])])) zNext) (zRet (mApp opIx [.val true (mDict (flatP [(.val true (mC (.str "bang")), .val true (mC (.str "bangs"))), (.val true (mC (.str "bangs")), .val true (mC (.str "comment"))), (.val true (mC (.str "dashes")), .val true (mC (.str "text")))])), .val true (mVar 0)])))))))))
def F__law_next : FnM := defM 2 [false, false] m__law_next
abbrev st__law_text : Stmt := top 13
def dd__law_text : He.DefD := ⟨("_law_text", none), "_law_text", "_law_text", defArgs st__law_text, defBody st__law_text, defScope st__law_text, [], []⟩
def N__law_text : List Str := ["_law_tape", "_law_rows", "_law_k"]
def m__law_text : SM := (zSeq (zSet 1 (mFz (mLst [.val true (mC (.str "<a>")), .val true (mC (.str "</b>")), .val true (mC (.str "<a x=\"1>2\">")), .val true (mC (.str "<c/>")), .val true (mC (.str "&lt;")), .val true (mC (.str "&amp;")), .val true (mC (.str "<!-- - -->")), .val true (mC (.str "<!---->")), .val true (mC (.str "<!--&<\">-->")), .val true (mC (.str "t")), .val true (mC (.str ">")), .val true (mC (.str "\"")), .val true (mC (.str "-")), .val true (mC (.str ";")), .val true (mC (.str "!"))]))) (zRet (mBm "str" opJoin (.val true (mC (.str ""))) [.val false (mComp (zRng1 (mCall F__law_draw [.plc 0, .val true (mC (.int 12))])) (.name 2) [2] bYes (mCall F__law_pick [.plc 0, .val true (mVar 1)]))])))
def F__law_text : FnM := defM 3 [true] m__law_text
abbrev st_law : Stmt := top 14
def dd_law : He.DefD := ⟨("law", none), "law", "law", defArgs st_law, defBody st_law, defScope st_law, [], []⟩
def N_law : List Str := ["_law_script", "_law_tape", "_law_state", "_law_byte", "_law_sign", "_law_due", "_law_turn"]
def m_law : SM := (zSeq (zSet 1 (mLst [.val true (mC (.int 0)), .val true (mApp opList [.val true (mVar 0)]), .val true (mC (.int 0))])) (zSeq (zIf (asB (mApp opNe [.val true (mC c_STATES), .val true (mTup [.val true (mC (.str "text")), .val true (mC (.str "less")), .val true (mC (.str "bang")), .val true (mC (.str "bangs")), .val true (mC (.str "comment")), .val true (mC (.str "dash")), .val true (mC (.str "dashes")), .val true (mC (.str "tag")), .val true (mC (.str "value")), .val true (mC (.str "entity"))])])) (zRet (mC (.bl false))) zNext) (zSeq (zForIn (zIt (mC c_STATES)) (.name 2) (zForIn (zIt (mLst [.val true (mC (.int 60)), .val true (mC (.int 62)), .val true (mC (.int 38)), .val true (mC (.int 59)), .val true (mC (.int 45)), .val true (mC (.int 33)), .val true (mC (.int 34)), .val true (mC (.int 47)), .val true (mC (.int 97)), .val true (mC (.int 32)), .val true (mC (.int 10)), .val true (mC (.int 9)), .val false (mCall F__law_draw [.plc 1, .val true (mC (.int 256))]), .val false (mCall F__law_draw [.plc 1, .val true (mC (.int 127))])])) (.name 3) (zIf (asB (mApp opNe [.val true (mCall F_next_state [.val true (mVar 2), .val true (mVar 3)]), .val true (mCall F__law_next [.val true (mVar 2), .val true (mVar 3)])])) (zRet (mC (.bl false))) zNext))) (zSeq (zSet 2 (mC (.str "text"))) (zSeq (zForIn (zIt (mCall F__law_text [.plc 1])) (.name 4) (zSet 2 (mFz (mCall F_next_state [.val true (mVar 2), .val true (mApp opOrd [.val true (mVar 4)])])))) (zSeq (zIf (asB (mApp opNe [.val true (mVar 2), .val true (mC (.str "text"))])) (zRet (mC (.bl false))) zNext) (zSeq (zSet 2 (mFz (mCall F__law_pick [.plc 1, .val true (mC c_STATES)]))) (zSeq (zSet 5 (mVar 2)) (zSeq (zForIn (zRng1 (mCall F__law_draw [.plc 1, .val true (mC (.int 61))])) (.name 6) (zSeq (zSet 3 (mFz (mCall F__law_pick [.plc 1, .val false (mLst [.val true (mC (.int 60)), .val true (mC (.int 62)), .val true (mC (.int 38)), .val true (mC (.int 59)), .val true (mC (.int 45)), .val true (mC (.int 45)), .val true (mC (.int 33)), .val true (mC (.int 34)), .val true (mC (.int 34)), .val true (mC (.int 47)), .val true (mC (.int 97)), .val false (mCall F__law_draw [.plc 1, .val true (mC (.int 256))])])]))) (zSeq (zSet 2 (mFz (mCall F_next_state [.val true (mVar 2), .val true (mVar 3)]))) (zSeq (zSet 5 (mFz (mCall F__law_next [.val true (mVar 5), .val true (mVar 3)]))) (zIf (asB (mApp opNe [.val true (mVar 2), .val true (mVar 5)])) (zRet (mC (.bl false))) zNext))))) (zRet (mC (.bl true))))))))))))
def F_law : FnM := defM 7 [false] m_law
def fn : List He.DefD := [dd_sign_of, dd_next_state, dd__law_draw, dd__law_pick, dd__law_next, dd__law_text, dd_law]
def fa : List He.Fa := [.glo "sign_of", .glo "next_state", .glo "_law_draw", .glo "_law_pick", .glo "_law_next", .glo "_law_text", .glo "law", .free "len", .free "int", .free "abs", .free "range", .free "list", .free "ord"]
def cs : List (Str × D) := [("FIRST_SIGN", c_FIRST_SIGN), ("LAST_SIGN", c_LAST_SIGN), ("NO_SIGN", c_NO_SIGN), ("SIGNS", c_SIGNS), ("STATES", c_STATES)]
theorem ok_sign_of {P : Program} {w : World} {G : Gx} {base : Heap} (h : Hd fa fn cs G) : Cal P w G base 1 "sign_of" ["byte"] F_sign_of := by
  obtain ⟨fd, Fn⟩ := h.says.def_ 0 (d := dd_sign_of) rfl
  refine cal_ok (k := 0) (N := N_sign_of) Fn (h.glo 0) ⟨rfl, rfl, rfl, by decide +kernel, rfl, by decide +kernel, by decide +kernel⟩ rfl (fun _ _ _ _ _ _ us hl => match us, hl with | [_], _ => rfl) fun cdv A outer s H E hr => ?_
  have K := ok_cx (P := P) (w := w) (G := G) (base := base) (N := N_sign_of) (cdv := cdv) (A := A) (outer := outer) (s := s) (H := H) (E := E) hr (by decide +kernel)
  exact (zs_cons (z_if (t_eq K (o_v (e_var 0)) (o_v e_int)) (zs_one (z_ret e_str)) zs_nil)
    (zs_cons (z_if (t_eq K (o_v (e_var 0)) (o_v e_int)) (zs_one (z_ret e_str)) zs_nil)
    (zs_cons (z_if (sb_w (sw_and (sb_chain (g := gLe) (g' := gLe) op_le op_le (e_glob K (h.con 0)) (e_var 0) (e_glob K (h.con 1))) (sw_and1 (t_ne K (o_v (e_var 0)) (o_v (e_glob K (h.con 2))))))) (zs_one (z_ret (e_ix K (o_v (e_glob K (h.con 3))) (o_v (e_sub K (o_v (e_var 0)) (o_v (e_glob K (h.con 0)))))))) zs_nil)
    (zs_one (z_ret e_non)))))
theorem ok_next_state {P : Program} {w : World} {G : Gx} {base : Heap} (h : Hd fa fn cs G) : Cal P w G base 2 "next_state" ["state", "byte"] F_next_state := by
  obtain ⟨fd, Fn⟩ := h.says.def_ 1 (d := dd_next_state) rfl
  have c_lsign_of := ok_sign_of (P := P) (w := w) (base := base) h
  refine cal_ok (k := 1) (N := N_next_state) Fn (h.glo 1) ⟨rfl, rfl, rfl, by decide +kernel, rfl, by decide +kernel, by decide +kernel⟩ rfl (fun _ _ _ _ _ _ us hl => match us, hl with | [_, _], _ => rfl) fun cdv A outer s H E hr => ?_
  have K := ok_cx (P := P) (w := w) (G := G) (base := base) (N := N_next_state) (cdv := cdv) (A := A) (outer := outer) (s := s) (H := H) (E := E) hr (by decide +kernel)
  exact (zs_cons (s_set 2 K (sx_fz (e_cal K c_lsign_of (pa_cs (o_v (e_var 1)) pa_nl))))
    (zs_cons (z_if (t_eq K (o_v (e_var 0)) (o_v e_str)) (zs_one (z_ret (e_bm PySem.F.plainAttrs_dict PySem.F.slot_dict_get PySem.F.type_dict_get (mt_get2 K.u1) rn_get2 K (o_v (sx_dict (d_cons (o_v e_str) (o_v e_str) (d_cons (o_v e_str) (o_v e_str) d_nil)) rfl rfl (fun z => nomatch z) (by decide))) (pa_cs (o_v (e_var 2)) (pa_cs (o_v e_str) pa_nl))))) zs_nil)
    (zs_cons (z_if (t_eq K (o_v (e_var 0)) (o_v e_str)) (zs_one (z_ret (e_bm PySem.F.plainAttrs_dict PySem.F.slot_dict_get PySem.F.type_dict_get (mt_get2 K.u1) rn_get2 K (o_v (sx_dict (d_cons (o_v e_str) (o_v e_str) d_nil) rfl rfl (fun z => nomatch z) (by decide))) (pa_cs (o_v (e_var 2)) (pa_cs (o_v e_str) pa_nl))))) zs_nil)
    (zs_cons (z_if (t_eq K (o_v (e_var 0)) (o_v e_str)) (zs_one (z_ret (e_bm PySem.F.plainAttrs_dict PySem.F.slot_dict_get PySem.F.type_dict_get (mt_get2 K.u1) rn_get2 K (o_v (sx_dict (d_cons (o_v e_str) (o_v e_str) d_nil) rfl rfl (fun z => nomatch z) (by decide))) (pa_cs (o_v (e_var 2)) (pa_cs (o_v e_str) pa_nl))))) zs_nil)
    (zs_cons (z_if (t_eq K (o_v (e_var 0)) (o_v e_str)) (zs_one (z_ret (e_bm PySem.F.plainAttrs_dict PySem.F.slot_dict_get PySem.F.type_dict_get (mt_get2 K.u1) rn_get2 K (o_v (sx_dict (d_cons (o_v e_str) (o_v e_str) d_nil) rfl rfl (fun z => nomatch z) (by decide))) (pa_cs (o_v (e_var 2)) (pa_cs (o_v e_str) pa_nl))))) zs_nil)
    (zs_cons (z_if (t_eq K (o_v (e_var 0)) (o_v e_str)) (zs_one (z_ret (e_bm PySem.F.plainAttrs_dict PySem.F.slot_dict_get PySem.F.type_dict_get (mt_get2 K.u1) rn_get2 K (o_v (sx_dict (d_cons (o_v e_str) (o_v e_str) (d_cons (o_v e_str) (o_v e_str) d_nil)) rfl rfl (fun z => nomatch z) (by decide))) (pa_cs (o_v (e_var 2)) (pa_cs (o_v e_str) pa_nl))))) zs_nil)
    (zs_cons (z_if (t_eq K (o_v (e_var 0)) (o_v e_str)) (zs_one (z_ret (e_bm PySem.F.plainAttrs_dict PySem.F.slot_dict_get PySem.F.type_dict_get (mt_get2 K.u1) rn_get2 K (o_v (sx_dict (d_cons (o_v e_str) (o_v e_str) d_nil) rfl rfl (fun z => nomatch z) (by decide))) (pa_cs (o_v (e_var 2)) (pa_cs (o_v e_str) pa_nl))))) zs_nil)
    (zs_cons (z_if (t_eq K (o_v (e_var 0)) (o_v e_str)) (zs_one (z_ret (e_bm PySem.F.plainAttrs_dict PySem.F.slot_dict_get PySem.F.type_dict_get (mt_get2 K.u1) rn_get2 K (o_v (sx_dict (d_cons (o_v e_str) (o_v e_str) d_nil) rfl rfl (fun z => nomatch z) (by decide))) (pa_cs (o_v (e_var 2)) (pa_cs (o_v e_str) pa_nl))))) zs_nil)
    (zs_one (z_ret (e_ix K (o_v (sx_dict (d_cons (o_v e_str) (o_v e_str) (d_cons (o_v e_str) (o_v e_str) (d_cons (o_v e_str) (o_v e_str) d_nil))) rfl rfl (fun z => nomatch z) (by decide))) (o_v (e_var 0)))))))))))))
theorem ok__law_draw {P : Program} {w : World} {G : Gx} {base : Heap} (h : Hd fa fn cs G) : Cal P w G base 1 "_law_draw" ["_law_tape", "_law_many"] F__law_draw := by
  obtain ⟨fd, Fn⟩ := h.says.def_ 2 (d := dd__law_draw) rfl
  refine cal_ok (k := 0) (N := N__law_draw) Fn (h.glo 2) ⟨rfl, rfl, rfl, by decide +kernel, rfl, by decide +kernel, by decide +kernel⟩ rfl (fun _ _ _ _ _ _ us hl => match us, hl with | [_, _], _ => rfl) fun cdv A outer s H E hr => ?_
  have K := ok_cx (P := P) (w := w) (G := G) (base := base) (N := N__law_draw) (cdv := cdv) (A := A) (outer := outer) (s := s) (H := H) (E := E) hr (by decide +kernel)
  exact (zs_cons (z_if (t_eq K (o_v (e_ix K (o_p 0) (o_v e_int))) (o_v e_int)) (zs_cons (s_set 2 K e_int)
    (zs_cons (z_if (t_lt K (o_v (e_ix K (o_p 0) (o_v e_int))) (o_v (e_bi call_lenA (rn_len K.gK) K (h.free 7) (pa_cs (o_v (e_ix K (o_p 0) (o_v e_int))) pa_nl)))) (zs_one (s_set 2 K (e_bi call_abs rn_abs K (h.free 9) (pa_cs (o_v (e_ti call_intA rn_int K (h.free 8) (pa_cs (o_v (e_ix K (o_v (e_ix K (o_p 0) (o_v e_int))) (o_v (e_ix K (o_p 0) (o_v e_int))))) pa_nl))) pa_nl)))) zs_nil)
    (zs_cons (s_put 0 K (sx_fz (e_add K (o_v (e_ix K (o_p 0) (o_v e_int))) (o_v e_int))) e_int)
    (zs_cons (s_put 0 K (e_var 2) e_int)
    (zs_one (z_if (t_lt K (o_v (e_var 2)) (o_v (e_pow K (o_v e_int) (o_v e_int)))) (zs_cons (s_set 3 K (e_mod K (o_v (e_ti call_intA rn_int K (h.free 8) (pa_cs (o_v (e_add K (o_v (e_add K (o_v (e_mul K (o_v (e_var 2)) (o_v e_int))) (o_v (e_mul K (o_v (e_ix K (o_p 0) (o_v e_int))) (o_v e_int))))) (o_v e_int))) pa_nl))) (o_v e_int)))
    (zs_one (s_put 0 K (sx_fz (e_add K (o_v (e_mul K (o_v (e_var 3)) (o_v e_int))) (o_v (e_mod K (o_v (e_ti call_intA rn_int K (h.free 8) (pa_cs (o_v (e_add K (o_v (e_mul K (o_v (e_var 3)) (o_v e_int))) (o_v e_int))) pa_nl))) (o_v e_int))))) e_int))) zs_nil)))))) zs_nil)
    (zs_cons (s_set 4 K (e_ix K (o_p 0) (o_v e_int)))
    (zs_cons (s_put 0 K (e_fdv K (o_v (e_var 4)) (o_v (e_var 1))) e_int)
    (zs_one (z_ret (e_mod K (o_v (e_ti call_intA rn_int K (h.free 8) (pa_cs (o_v (e_var 4)) pa_nl))) (o_v (e_var 1))))))))
theorem ok__law_pick {P : Program} {w : World} {G : Gx} {base : Heap} (h : Hd fa fn cs G) : Cal P w G base 2 "_law_pick" ["_law_tape", "_law_row"] F__law_pick := by
  obtain ⟨fd, Fn⟩ := h.says.def_ 3 (d := dd__law_pick) rfl
  have c_l_law_draw := ok__law_draw (P := P) (w := w) (base := base) h
  refine cal_ok (k := 1) (N := N__law_pick) Fn (h.glo 3) ⟨rfl, rfl, rfl, by decide +kernel, rfl, by decide +kernel, by decide +kernel⟩ rfl (fun _ _ _ _ _ _ us hl => match us, hl with | [_, _], _ => rfl) fun cdv A outer s H E hr => ?_
  have K := ok_cx (P := P) (w := w) (G := G) (base := base) (N := N__law_pick) (cdv := cdv) (A := A) (outer := outer) (s := s) (H := H) (E := E) hr (by decide +kernel)
  exact (zs_one (z_ret (e_ix K (o_v (e_var 1)) (o_v (e_cal K c_l_law_draw (pa_cs (o_p 0) (pa_cs (o_v (e_bi call_lenA (rn_len K.gK) K (h.free 7) (pa_cs (o_v (e_var 1)) pa_nl))) pa_nl)))))))
theorem ok__law_next {P : Program} {w : World} {G : Gx} {base : Heap} (h : Hd fa fn cs G) : Cal P w G base 1 "_law_next" ["_law_state", "_law_byte"] F__law_next := by
  obtain ⟨fd, Fn⟩ := h.says.def_ 4 (d := dd__law_next) rfl
  refine cal_ok (k := 0) (N := N__law_next) Fn (h.glo 4) ⟨rfl, rfl, rfl, by decide +kernel, rfl, by decide +kernel, by decide +kernel⟩ rfl (fun _ _ _ _ _ _ us hl => match us, hl with | [_, _], _ => rfl) fun cdv A outer s H E hr => ?_
  have K := ok_cx (P := P) (w := w) (G := G) (base := base) (N := N__law_next) (cdv := cdv) (A := A) (outer := outer) (s := s) (H := H) (E := E) hr (by decide +kernel)
  exact (zs_cons (z_if (t_eq K (o_v (e_var 0)) (o_v e_str)) (zs_cons (z_if (t_eq K (o_v (e_var 1)) (o_v e_int)) (zs_one (z_ret e_str)) zs_nil)
    (zs_one (z_ret (e_ix K (o_v (sx_lst (pa_cs (o_v e_str) (pa_cs (o_v e_str) pa_nl)))) (o_v (e_ti call_intA rn_int K (h.free 8) (pa_cs (o_v (e_eq K (o_v (e_var 1)) (o_v e_int))) pa_nl))))))) zs_nil)
    (zs_cons (z_if (t_eq K (o_v (e_var 0)) (o_v e_str)) (zs_one (z_ret (e_ix K (o_v (sx_lst (pa_cs (o_v e_str) (pa_cs (o_v e_str) pa_nl)))) (o_v (e_ti call_intA rn_int K (h.free 8) (pa_cs (o_v (e_eq K (o_v (e_var 1)) (o_v e_int))) pa_nl)))))) zs_nil)
    (zs_cons (z_if (t_eq K (o_v (e_var 0)) (o_v e_str)) (zs_one (z_ret (e_ix K (o_v (sx_lst (pa_cs (o_v e_str) (pa_cs (o_v e_str) pa_nl)))) (o_v (e_ti call_intA rn_int K (h.free 8) (pa_cs (o_v (e_eq K (o_v (e_var 1)) (o_v e_int))) pa_nl)))))) zs_nil)
    (zs_cons (z_if (t_eq K (o_v (e_var 0)) (o_v e_str)) (zs_one (z_ret (e_ix K (o_v (sx_lst (pa_cs (o_v e_str) (pa_cs (o_v e_str) pa_nl)))) (o_v (e_ti call_intA rn_int K (h.free 8) (pa_cs (o_v (e_eq K (o_v (e_var 1)) (o_v e_int))) pa_nl)))))) zs_nil)
    (zs_cons (z_if (t_eq K (o_v (e_var 0)) (o_v e_str)) (zs_cons (z_if (t_eq K (o_v (e_var 1)) (o_v e_int)) (zs_one (z_ret e_str)) zs_nil)
    (zs_one (z_ret (e_ix K (o_v (sx_lst (pa_cs (o_v e_str) (pa_cs (o_v e_str) pa_nl)))) (o_v (e_ti call_intA rn_int K (h.free 8) (pa_cs (o_v (e_eq K (o_v (e_var 1)) (o_v e_int))) pa_nl))))))) zs_nil)
    (zs_cons (z_if (t_eq K (o_v (e_var 0)) (o_v e_str)) (zs_one (z_ret (e_ix K (o_v (sx_lst (pa_cs (o_v e_str) (pa_cs (o_v e_str) pa_nl)))) (o_v (e_ti call_intA rn_int K (h.free 8) (pa_cs (o_v (e_eq K (o_v (e_var 1)) (o_v e_int))) pa_nl)))))) zs_nil)
    (zs_cons (z_if (t_eq K (o_v (e_var 0)) (o_v e_str)) (zs_one (z_ret (e_ix K (o_v (sx_lst (pa_cs (o_v e_str) (pa_cs (o_v e_str) pa_nl)))) (o_v (e_ti call_intA rn_int K (h.free 8) (pa_cs (o_v (e_eq K (o_v (e_var 1)) (o_v e_int))) pa_nl)))))) zs_nil)
    (zs_one (z_ret (e_ix K (o_v (sx_dict (d_cons (o_v e_str) (o_v e_str) (d_cons (o_v e_str) (o_v e_str) (d_cons (o_v e_str) (o_v e_str) d_nil))) rfl rfl (fun z => nomatch z) (by decide))) (o_v (e_var 0))))))))))))
theorem ok__law_text {P : Program} {w : World} {G : Gx} {base : Heap} (h : Hd fa fn cs G) : Cal P w G base 3 "_law_text" ["_law_tape"] F__law_text := by
  obtain ⟨fd, Fn⟩ := h.says.def_ 5 (d := dd__law_text) rfl
  have c_l_law_draw := ok__law_draw (P := P) (w := w) (base := base) h
  have c_l_law_pick := ok__law_pick (P := P) (w := w) (base := base) h
  refine cal_ok (k := 2) (N := N__law_text) Fn (h.glo 5) ⟨rfl, rfl, rfl, by decide +kernel, rfl, by decide +kernel, by decide +kernel⟩ rfl (fun _ _ _ _ _ _ us hl => match us, hl with | [_], _ => rfl) fun cdv A outer s H E hr => ?_
  have K := ok_cx (P := P) (w := w) (G := G) (base := base) (N := N__law_text) (cdv := cdv) (A := A) (outer := outer) (s := s) (H := H) (E := E) hr (by decide +kernel)
  exact (zs_cons (s_set 1 K (sx_fz (sx_lst (pa_cs (o_v e_str) (pa_cs (o_v e_str) (pa_cs (o_v e_str) (pa_cs (o_v e_str) (pa_cs (o_v e_str) (pa_cs (o_v e_str) (pa_cs (o_v e_str) (pa_cs (o_v e_str) (pa_cs (o_v e_str) (pa_cs (o_v e_str) (pa_cs (o_v e_str) (pa_cs (o_v e_str) (pa_cs (o_v e_str) (pa_cs (o_v e_str) (pa_cs (o_v e_str) pa_nl))))))))))))))))))
    (zs_one (z_ret (e_bm PySem.F.plainAttrs_str PySem.F.slot_str_join PySem.F.type_str_join mt_join (rn_join K.gK) K (o_v e_str) (pa_cs (o_v (sx_compR1 K.gK K.c K.n rfl (K.m (h.free 10)) (pa_cons (e_cal K c_l_law_draw (pa_cs (o_p 0) (pa_cs (o_v e_int) pa_nl))) pa_nil) (blk_of (own := [("_law_k", 2)]) (by rfl)) (by decide) (fun s H C cl fp => (g_n 2 (K.blk s H _ cl C fp))) (fun s H C cl fp => pts_yes) (fun s H C cl fp => (e_cal (K.blk s H _ cl C fp) c_l_law_pick (pa_cs (o_p 0) (pa_cs (o_v (e_var 1)) pa_nl)))))) pa_nl)))))
theorem ok_law {P : Program} {w : World} {G : Gx} {base : Heap} {fd : FuncData} (h : Hd fa fn cs G) (Fn : FunD G.K "law" "law" (defArgs st_law) (defBody st_law) (defScope st_law) [] [] (He.ga G.K "law") fd) : FnOk P w G.K G.mg base (L2.CX P w) 4 (He.ga G.K "law") fd ["_law_script"] (spOf G F_law) := by
  have c_l_law_draw := ok__law_draw (P := P) (w := w) (base := base) h
  have c_lnext_state := ok_next_state (P := P) (w := w) (base := base) h
  have c_l_law_next := ok__law_next (P := P) (w := w) (base := base) h
  have c_l_law_text := ok__law_text (P := P) (w := w) (base := base) h
  have c_l_law_pick := ok__law_pick (P := P) (w := w) (base := base) h
  refine fnv_ok (k := 3) (N := N_law) Fn ⟨rfl, rfl, rfl, by decide +kernel, rfl, by decide +kernel, by decide +kernel⟩ rfl fun cdv A outer s H E hr => ?_
  have K := ok_cx (P := P) (w := w) (G := G) (base := base) (N := N_law) (cdv := cdv) (A := A) (outer := outer) (s := s) (H := H) (E := E) hr (by decide +kernel)
  exact (zs_cons (s_set 1 K (sx_lst (pa_cs (o_v e_int) (pa_cs (o_v (e_ti call_list_of (rn_list K.gK) K (h.free 11) (pa_cs (o_v (e_var 0)) pa_nl))) (pa_cs (o_v e_int) pa_nl)))))
    (zs_cons (z_if (t_ne K (o_v (e_glob K (h.con 4))) (o_v (sx_tup (pa_cs (o_v e_str) (pa_cs (o_v e_str) (pa_cs (o_v e_str) (pa_cs (o_v e_str) (pa_cs (o_v e_str) (pa_cs (o_v e_str) (pa_cs (o_v e_str) (pa_cs (o_v e_str) (pa_cs (o_v e_str) (pa_cs (o_v e_str) pa_nl))))))))))))) (zs_one (z_ret e_bl)) zs_nil)
    (zs_cons (s_for K po_cx (e_glob K (h.con 4)) (g_n 2 K) (zs_one (s_for K po_cx (sx_lst (pa_cs (o_v e_int) (pa_cs (o_v e_int) (pa_cs (o_v e_int) (pa_cs (o_v e_int) (pa_cs (o_v e_int) (pa_cs (o_v e_int) (pa_cs (o_v e_int) (pa_cs (o_v e_int) (pa_cs (o_v e_int) (pa_cs (o_v e_int) (pa_cs (o_v e_int) (pa_cs (o_v e_int) (pa_cs (o_v (e_cal K c_l_law_draw (pa_cs (o_p 1) (pa_cs (o_v e_int) pa_nl)))) (pa_cs (o_v (e_cal K c_l_law_draw (pa_cs (o_p 1) (pa_cs (o_v e_int) pa_nl)))) pa_nl))))))))))))))) (g_n 3 K) (zs_one (z_if (t_ne K (o_v (e_cal K c_lnext_state (pa_cs (o_v (e_var 2)) (pa_cs (o_v (e_var 3)) pa_nl)))) (o_v (e_cal K c_l_law_next (pa_cs (o_v (e_var 2)) (pa_cs (o_v (e_var 3)) pa_nl))))) (zs_one (z_ret e_bl)) zs_nil)))))
    (zs_cons (s_set 2 K e_str)
    (zs_cons (s_for K po_cx (e_cal K c_l_law_text (pa_cs (o_p 1) pa_nl)) (g_n 4 K) (zs_one (s_set 2 K (sx_fz (e_cal K c_lnext_state (pa_cs (o_v (e_var 2)) (pa_cs (o_v (e_bi call_ord rn_ord K (h.free 12) (pa_cs (o_v (e_var 4)) pa_nl))) pa_nl)))))))
    (zs_cons (z_if (t_ne K (o_v (e_var 2)) (o_v e_str)) (zs_one (z_ret e_bl)) zs_nil)
    (zs_cons (s_set 2 K (sx_fz (e_cal K c_l_law_pick (pa_cs (o_p 1) (pa_cs (o_v (e_glob K (h.con 4))) pa_nl)))))
    (zs_cons (s_set 5 K (e_var 2))
    (zs_cons (s_for1 K po_cx (h.free 10) (e_cal K c_l_law_draw (pa_cs (o_p 1) (pa_cs (o_v e_int) pa_nl))) (g_n 6 K) (zs_cons (s_set 3 K (sx_fz (e_cal K c_l_law_pick (pa_cs (o_p 1) (pa_cs (o_v (sx_lst (pa_cs (o_v e_int) (pa_cs (o_v e_int) (pa_cs (o_v e_int) (pa_cs (o_v e_int) (pa_cs (o_v e_int) (pa_cs (o_v e_int) (pa_cs (o_v e_int) (pa_cs (o_v e_int) (pa_cs (o_v e_int) (pa_cs (o_v e_int) (pa_cs (o_v e_int) (pa_cs (o_v (e_cal K c_l_law_draw (pa_cs (o_p 1) (pa_cs (o_v e_int) pa_nl)))) pa_nl)))))))))))))) pa_nl)))))
    (zs_cons (s_set 2 K (sx_fz (e_cal K c_lnext_state (pa_cs (o_v (e_var 2)) (pa_cs (o_v (e_var 3)) pa_nl)))))
    (zs_cons (s_set 5 K (sx_fz (e_cal K c_l_law_next (pa_cs (o_v (e_var 5)) (pa_cs (o_v (e_var 3)) pa_nl)))))
    (zs_one (z_if (t_ne K (o_v (e_var 2)) (o_v (e_var 5))) (zs_one (z_ret e_bl)) zs_nil))))))
    (zs_one (z_ret e_bl)))))))))))
abbrev R : PySem.W.OpenRow := PySem.W.OpenLaw.row PySem.Challenge.rw_hewstream_k95_states_of_reading
abbrev hk : PySem.W.Hook := hookV 4 fa fn cs
def ob (s : PySem.W.SharedT) : AlV := obsV 4 fa fn cs (HandSHeadRun.getT s)
theorem ob_eq (s : PySem.W.SharedT) : ob s = hk.obs s.abs := obsV_eq (HandSHeadRun.getT_eq s)
def names : List Str := (["__name__", "FIRST_SIGN", "LAST_SIGN", "NO_SIGN", "SIGNS", "sign_of", "STATES", "next_state", "_law_draw", "_law_pick", "_law_next", "_law_text"] : List Str)
theorem run (w : World) : HandSHeadRun.RunEq R (PySem.W.view R.prog [14]) hk ob 4000 names w := by
  intro os
  kernel_rfl
/-- what is left: the law's own function says true -/
theorem head (law : ∀ ns : List Int, ns.length ≤ 63 → ∃ bk, F_law [.v (.rol (ns.map .int))] = .ok (.v (.bl true)) bk) : PySem.Challenge.rw_hewstream_k95_states_of_reading.Holds := by
  open PySem.W PySem.Calls PyProof.Rows in
  w_on; o_law
  refine HandSHeadRun.head_any (r := PySem.W.OpenLaw.row PySem.Challenge.rw_hewstream_k95_states_of_reading) (q := PySem.W.view (PySem.W.OpenLaw.row PySem.Challenge.rw_hewstream_k95_states_of_reading).prog [14]) (H := hk) (ob := ob) (M := 4000) (loose := names) (d := HandSHeadRun.topDef (PySem.W.OpenLaw.row PySem.Challenge.rw_hewstream_k95_states_of_reading).prog 14) (kwd := []) ob_eq
    (by kernel_rfl) (fun s => by kernel_rfl) run (by kernel_rfl) (by kernel_rfl) (by kernel_rfl) (by rfl) (by first | assumption | decide +kernel) (by decide +kernel) ⟨rfl, rfl, rfl, rfl, rfl, by decide +kernel⟩ ?hw ?hc
  case hw => w_witness2
  case hc =>
    refine walk_V (l := PySem.Challenge.rw_hewstream_k95_states_of_reading) (n := 63) (k := 4) (x := "_law_script") (y := "law") rfl (by decide) (by kernel_rfl) ⟨rfl, by decide, by decide⟩ (by kernel_rfl) ?F
    intro w mg h Y N
    obtain ⟨K, KX, c, cc⟩ := Y
    have hd : Hd fa fn cs ⟨K, mg⟩ := ⟨c, cc, h, KX, N⟩
    obtain ⟨fd, Fn⟩ := c.def_ 6 (d := dd_law) rfl
    have b := FunD.bindsA (ps := ["_law_script"]) Fn fun _ _ _ _ _ _ us hl => match us, hl with | [_], _ => rfl
    exact ⟨K, F_law, fd, _, KX, hd.glo 6, fun s v => b s [v] rfl, law, fun base _ _ => ok_law (G := ⟨K, mg⟩) hd Fn⟩
end Lw
namespace Lw
open PySem L2 Vs VsEv
structure Tp where
  c : Int
  k : Nat
  xs : List Int
def Tp.od (t : Tp) : OD := .l [.v (.int t.c), .v (.lst (t.xs.map .int)), .v (.int t.k)]
theorem draw_tail (c m : Int) (k : Nat) (xs : List Int) (h0 : 0 < m) (h1 : m < 1073741824) : ∃ r : Int × Tp, 0 ≤ r.1 ∧ r.1 < m ∧ Out.ok (OD.v (.int (c.fmod m))) [some (.l [.v (.int (c.fdiv m)), .v (.lst (xs.map .int)), .v (.int k)]), none] = .ok (.v (.int r.1)) [some r.2.od, none] :=
  ⟨(c.fmod m, ⟨c.fdiv m, k, xs⟩), Int.fmod_nonneg_of_pos _ h0, Int.fmod_lt_of_pos _ h0, rfl⟩
theorem draw_ex (t : Tp) (m : Int) (h0 : 0 < m) (h1 : m < 1073741824) : ∃ r : Int × Tp, 0 ≤ r.1 ∧ r.1 < m ∧ F__law_draw [t.od, .v (.int m)] = .ok (.v (.int r.1)) [some r.2.od, none] := by
  obtain ⟨c, k, xs⟩ := t
  unfold F__law_draw m__law_draw Tp.od
  have e1 : (k : Int) + 1 = ((k + 1 : Nat) : Int) := by omega
  by_cases hc : c = 0
  · by_cases hk : k < xs.length
    · by_cases hd : (if xs[k] < 0 then -xs[k] else xs[k]) < 1000000000000000000
      · simp only [↓bind_e, bindL_ok, bindL_exc, bindL_stuck, defM_e, mApp_e, mBm_e, mTake_e, mC_e, mVar_e, gotV_some, mFz_e, asB_e, isB_bl, mB_e, bAnd_e, bOr_e, bNot_e, mIf_e, zNext_e, zBreak_e, zCont_e, thenS_nx, thenS_rt, thenS_bk, thenS_ct, zSeq_e, zSet_e, zRet_e, zRetN_e, zDrop_e, zIf_e, zSetIx_e, zForIn_e, zLoop_nx, zLoop_ct, zLoop_bk, zLoop_rt, ofO_some, ofS_some, ofI_some, zIt_e, zRng1_e, callO_some, retO_ok, retO_exc, mCall_e, takeP_some, takeAll_nil, takeAll_own, takeAll_plc, putP_none, putBack_plc, putBack_own, putBack_nil, retD_rt, retD_nx, retD_exc, opIx_lst, opIx_rol, opIx_tup, opEq_int, opNe_int, opEq_str, opNe_str, opAdd_int, opSub_int, opLt_int, opLe_int, opGt_int, opGe_int, opAbs_int, opInt_int, opInt_bl, opLen_lst, opLen_rol, opLen_tup, opList_lst, opList_rol, opList_tup, fz_v, fz_l, fzs_nil, fzs_cons, fzs_mv, shs_nil, shs_cons, shs_v, sh_v, sh_l, ev_val, ev_plc, evAll_nil, evAll_cons, okPl_nil, okPl_val, okPl_plc, res_nil, res_own, res_plc, putS_e, putIx_l, back_nil, back_t, back_f, tgt_name, tgt_tup, setAll_nil, setAll_cons, items_lst, items_tup, items_str, slotIs, T_str, T_list, T_dict, T_int, isKd, kdOf, beq_self_eq_true, kLst_e, kLstO_e, kTup_e, mLst_e, mLstO_e, mTup_e, mDict_e, wipeE_nil, wipeE_cons, atI_0, ixN_0, atI_1, ixN_1, atI_2, ixN_2, atI_3, ixN_3, atI_4, ixN_4, atI_5, ixN_5, atI_6, ixN_6, atI_7, ixN_7, atI_8, ixN_8, atI_9, ixN_9, atI_10, ixN_10, atI_11, ixN_11, atI_12, ixN_12, atI_13, ixN_13, atI_14, ixN_14, atI_15, ixN_15, ixN_nat, atI_ofNat, opMul_r, opMul_l, opFdv_p, opMod_p, opPow_10_18, or_true, true_or, Int.reduceLT, Int.reduceNeg, Int.reduceLE, Int.reducePow, Int.reduceEq, Int.natAbs, Int.reduceAbs, N.Out_bind_ok, N.Out_bind_exc, N.Out_bind_stuck, N.Option_map_some, N.Option_map_none, N.Option_bind_some, N.Option_bind_none, N.Option_join_some, N.Option_isSome_some, Bool.and_true, Bool.true_and, Bool.and_self, Bool.or_true, Bool.true_or, Bool.or_false, Bool.false_or, Bool.not_true, Bool.not_false, Bool.false_eq_true, if_true, if_false, ite_true, ite_false, N.List_length_cons, N.List_length_nil, N.List_map_cons, N.List_map_nil, N.List_cons_append, N.List_nil_append, List.replicate, N.List_getElemQ_cons_zero, N.List_getElemQ_cons_succ, N.List_set_cons_zero, N.List_set_cons_succ, decide_true, decide_false, reduceIte, Nat.reduceAdd, Nat.reduceSub, Nat.reduceLT, Nat.reduceLeDiff, Nat.reduceEqDiff, Nat.zero_add, Nat.succ_eq_add_one, eq_self, ne_eq, not_true_eq_false, not_false_eq_true, and_self, and_true, true_and, hc, List.length_map, Int.ofNat_lt, hk, List.getElem?_map, List.getElem?_eq_getElem hk, hd, h0, h1, e1]
        exact draw_tail _ m _ xs h0 h1
      · simp only [↓bind_e, bindL_ok, bindL_exc, bindL_stuck, defM_e, mApp_e, mBm_e, mTake_e, mC_e, mVar_e, gotV_some, mFz_e, asB_e, isB_bl, mB_e, bAnd_e, bOr_e, bNot_e, mIf_e, zNext_e, zBreak_e, zCont_e, thenS_nx, thenS_rt, thenS_bk, thenS_ct, zSeq_e, zSet_e, zRet_e, zRetN_e, zDrop_e, zIf_e, zSetIx_e, zForIn_e, zLoop_nx, zLoop_ct, zLoop_bk, zLoop_rt, ofO_some, ofS_some, ofI_some, zIt_e, zRng1_e, callO_some, retO_ok, retO_exc, mCall_e, takeP_some, takeAll_nil, takeAll_own, takeAll_plc, putP_none, putBack_plc, putBack_own, putBack_nil, retD_rt, retD_nx, retD_exc, opIx_lst, opIx_rol, opIx_tup, opEq_int, opNe_int, opEq_str, opNe_str, opAdd_int, opSub_int, opLt_int, opLe_int, opGt_int, opGe_int, opAbs_int, opInt_int, opInt_bl, opLen_lst, opLen_rol, opLen_tup, opList_lst, opList_rol, opList_tup, fz_v, fz_l, fzs_nil, fzs_cons, fzs_mv, shs_nil, shs_cons, shs_v, sh_v, sh_l, ev_val, ev_plc, evAll_nil, evAll_cons, okPl_nil, okPl_val, okPl_plc, res_nil, res_own, res_plc, putS_e, putIx_l, back_nil, back_t, back_f, tgt_name, tgt_tup, setAll_nil, setAll_cons, items_lst, items_tup, items_str, slotIs, T_str, T_list, T_dict, T_int, isKd, kdOf, beq_self_eq_true, kLst_e, kLstO_e, kTup_e, mLst_e, mLstO_e, mTup_e, mDict_e, wipeE_nil, wipeE_cons, atI_0, ixN_0, atI_1, ixN_1, atI_2, ixN_2, atI_3, ixN_3, atI_4, ixN_4, atI_5, ixN_5, atI_6, ixN_6, atI_7, ixN_7, atI_8, ixN_8, atI_9, ixN_9, atI_10, ixN_10, atI_11, ixN_11, atI_12, ixN_12, atI_13, ixN_13, atI_14, ixN_14, atI_15, ixN_15, ixN_nat, atI_ofNat, opMul_r, opMul_l, opFdv_p, opMod_p, opPow_10_18, or_true, true_or, Int.reduceLT, Int.reduceNeg, Int.reduceLE, Int.reducePow, Int.reduceEq, Int.natAbs, Int.reduceAbs, N.Out_bind_ok, N.Out_bind_exc, N.Out_bind_stuck, N.Option_map_some, N.Option_map_none, N.Option_bind_some, N.Option_bind_none, N.Option_join_some, N.Option_isSome_some, Bool.and_true, Bool.true_and, Bool.and_self, Bool.or_true, Bool.true_or, Bool.or_false, Bool.false_or, Bool.not_true, Bool.not_false, Bool.false_eq_true, if_true, if_false, ite_true, ite_false, N.List_length_cons, N.List_length_nil, N.List_map_cons, N.List_map_nil, N.List_cons_append, N.List_nil_append, List.replicate, N.List_getElemQ_cons_zero, N.List_getElemQ_cons_succ, N.List_set_cons_zero, N.List_set_cons_succ, decide_true, decide_false, reduceIte, Nat.reduceAdd, Nat.reduceSub, Nat.reduceLT, Nat.reduceLeDiff, Nat.reduceEqDiff, Nat.zero_add, Nat.succ_eq_add_one, eq_self, ne_eq, not_true_eq_false, not_false_eq_true, and_self, and_true, true_and, hc, List.length_map, Int.ofNat_lt, hk, List.getElem?_map, List.getElem?_eq_getElem hk, hd, h0, h1, e1]
        exact draw_tail _ m _ xs h0 h1
    · simp only [↓bind_e, bindL_ok, bindL_exc, bindL_stuck, defM_e, mApp_e, mBm_e, mTake_e, mC_e, mVar_e, gotV_some, mFz_e, asB_e, isB_bl, mB_e, bAnd_e, bOr_e, bNot_e, mIf_e, zNext_e, zBreak_e, zCont_e, thenS_nx, thenS_rt, thenS_bk, thenS_ct, zSeq_e, zSet_e, zRet_e, zRetN_e, zDrop_e, zIf_e, zSetIx_e, zForIn_e, zLoop_nx, zLoop_ct, zLoop_bk, zLoop_rt, ofO_some, ofS_some, ofI_some, zIt_e, zRng1_e, callO_some, retO_ok, retO_exc, mCall_e, takeP_some, takeAll_nil, takeAll_own, takeAll_plc, putP_none, putBack_plc, putBack_own, putBack_nil, retD_rt, retD_nx, retD_exc, opIx_lst, opIx_rol, opIx_tup, opEq_int, opNe_int, opEq_str, opNe_str, opAdd_int, opSub_int, opLt_int, opLe_int, opGt_int, opGe_int, opAbs_int, opInt_int, opInt_bl, opLen_lst, opLen_rol, opLen_tup, opList_lst, opList_rol, opList_tup, fz_v, fz_l, fzs_nil, fzs_cons, fzs_mv, shs_nil, shs_cons, shs_v, sh_v, sh_l, ev_val, ev_plc, evAll_nil, evAll_cons, okPl_nil, okPl_val, okPl_plc, res_nil, res_own, res_plc, putS_e, putIx_l, back_nil, back_t, back_f, tgt_name, tgt_tup, setAll_nil, setAll_cons, items_lst, items_tup, items_str, slotIs, T_str, T_list, T_dict, T_int, isKd, kdOf, beq_self_eq_true, kLst_e, kLstO_e, kTup_e, mLst_e, mLstO_e, mTup_e, mDict_e, wipeE_nil, wipeE_cons, atI_0, ixN_0, atI_1, ixN_1, atI_2, ixN_2, atI_3, ixN_3, atI_4, ixN_4, atI_5, ixN_5, atI_6, ixN_6, atI_7, ixN_7, atI_8, ixN_8, atI_9, ixN_9, atI_10, ixN_10, atI_11, ixN_11, atI_12, ixN_12, atI_13, ixN_13, atI_14, ixN_14, atI_15, ixN_15, ixN_nat, atI_ofNat, opMul_r, opMul_l, opFdv_p, opMod_p, opPow_10_18, or_true, true_or, Int.reduceLT, Int.reduceNeg, Int.reduceLE, Int.reducePow, Int.reduceEq, Int.natAbs, Int.reduceAbs, N.Out_bind_ok, N.Out_bind_exc, N.Out_bind_stuck, N.Option_map_some, N.Option_map_none, N.Option_bind_some, N.Option_bind_none, N.Option_join_some, N.Option_isSome_some, Bool.and_true, Bool.true_and, Bool.and_self, Bool.or_true, Bool.true_or, Bool.or_false, Bool.false_or, Bool.not_true, Bool.not_false, Bool.false_eq_true, if_true, if_false, ite_true, ite_false, N.List_length_cons, N.List_length_nil, N.List_map_cons, N.List_map_nil, N.List_cons_append, N.List_nil_append, List.replicate, N.List_getElemQ_cons_zero, N.List_getElemQ_cons_succ, N.List_set_cons_zero, N.List_set_cons_succ, decide_true, decide_false, reduceIte, Nat.reduceAdd, Nat.reduceSub, Nat.reduceLT, Nat.reduceLeDiff, Nat.reduceEqDiff, Nat.zero_add, Nat.succ_eq_add_one, eq_self, ne_eq, not_true_eq_false, not_false_eq_true, and_self, and_true, true_and, hc, List.length_map, Int.ofNat_lt, hk, h0, h1, e1]
      exact draw_tail _ m _ xs h0 h1
  · simp only [↓bind_e, bindL_ok, bindL_exc, bindL_stuck, defM_e, mApp_e, mBm_e, mTake_e, mC_e, mVar_e, gotV_some, mFz_e, asB_e, isB_bl, mB_e, bAnd_e, bOr_e, bNot_e, mIf_e, zNext_e, zBreak_e, zCont_e, thenS_nx, thenS_rt, thenS_bk, thenS_ct, zSeq_e, zSet_e, zRet_e, zRetN_e, zDrop_e, zIf_e, zSetIx_e, zForIn_e, zLoop_nx, zLoop_ct, zLoop_bk, zLoop_rt, ofO_some, ofS_some, ofI_some, zIt_e, zRng1_e, callO_some, retO_ok, retO_exc, mCall_e, takeP_some, takeAll_nil, takeAll_own, takeAll_plc, putP_none, putBack_plc, putBack_own, putBack_nil, retD_rt, retD_nx, retD_exc, opIx_lst, opIx_rol, opIx_tup, opEq_int, opNe_int, opEq_str, opNe_str, opAdd_int, opSub_int, opLt_int, opLe_int, opGt_int, opGe_int, opAbs_int, opInt_int, opInt_bl, opLen_lst, opLen_rol, opLen_tup, opList_lst, opList_rol, opList_tup, fz_v, fz_l, fzs_nil, fzs_cons, fzs_mv, shs_nil, shs_cons, shs_v, sh_v, sh_l, ev_val, ev_plc, evAll_nil, evAll_cons, okPl_nil, okPl_val, okPl_plc, res_nil, res_own, res_plc, putS_e, putIx_l, back_nil, back_t, back_f, tgt_name, tgt_tup, setAll_nil, setAll_cons, items_lst, items_tup, items_str, slotIs, T_str, T_list, T_dict, T_int, isKd, kdOf, beq_self_eq_true, kLst_e, kLstO_e, kTup_e, mLst_e, mLstO_e, mTup_e, mDict_e, wipeE_nil, wipeE_cons, atI_0, ixN_0, atI_1, ixN_1, atI_2, ixN_2, atI_3, ixN_3, atI_4, ixN_4, atI_5, ixN_5, atI_6, ixN_6, atI_7, ixN_7, atI_8, ixN_8, atI_9, ixN_9, atI_10, ixN_10, atI_11, ixN_11, atI_12, ixN_12, atI_13, ixN_13, atI_14, ixN_14, atI_15, ixN_15, ixN_nat, atI_ofNat, opMul_r, opMul_l, opFdv_p, opMod_p, opPow_10_18, or_true, true_or, Int.reduceLT, Int.reduceNeg, Int.reduceLE, Int.reducePow, Int.reduceEq, Int.natAbs, Int.reduceAbs, N.Out_bind_ok, N.Out_bind_exc, N.Out_bind_stuck, N.Option_map_some, N.Option_map_none, N.Option_bind_some, N.Option_bind_none, N.Option_join_some, N.Option_isSome_some, Bool.and_true, Bool.true_and, Bool.and_self, Bool.or_true, Bool.true_or, Bool.or_false, Bool.false_or, Bool.not_true, Bool.not_false, Bool.false_eq_true, if_true, if_false, ite_true, ite_false, N.List_length_cons, N.List_length_nil, N.List_map_cons, N.List_map_nil, N.List_cons_append, N.List_nil_append, List.replicate, N.List_getElemQ_cons_zero, N.List_getElemQ_cons_succ, N.List_set_cons_zero, N.List_set_cons_succ, decide_true, decide_false, reduceIte, Nat.reduceAdd, Nat.reduceSub, Nat.reduceLT, Nat.reduceLeDiff, Nat.reduceEqDiff, Nat.zero_add, Nat.succ_eq_add_one, eq_self, ne_eq, not_true_eq_false, not_false_eq_true, and_self, and_true, true_and, hc, h0, h1]
    exact draw_tail _ m _ xs h0 h1
end Lw
namespace Lw
open PySem L2 Vs VsEv
noncomputable def dr (t : Tp) (m : Int) : Int × Tp := by
  classical exact if h : 0 < m ∧ m < 1073741824 then Classical.choose (draw_ex t m h.1 h.2) else (0, t)
theorem dr_ok (t : Tp) {m : Int} (h0 : 0 < m) (h1 : m < 1073741824) : 0 ≤ (dr t m).1 ∧ (dr t m).1 < m ∧ F__law_draw [t.od, .v (.int m)] = .ok (.v (.int (dr t m).1)) [some (dr t m).2.od, none] := by
  unfold dr
  rw [dif_pos ⟨h0, h1⟩]
  exact Classical.choose_spec (draw_ex t m h0 h1)
theorem draw_e (t : Tp) {m : Int} (h0 : 0 < m) (h1 : m < 1073741824) : F__law_draw [t.od, .v (.int m)] = .ok (.v (.int (dr t m).1)) [some (dr t m).2.od, none] := (dr_ok t h0 h1).2.2
/-- one of a row -/
theorem pick_ex (t : Tp) (row : D) (ds : List D) (hr : row = .lst ds ∨ row = .tup ds) (h0 : 0 < ds.length) (h1 : ds.length < 1073741824) : ∃ d t', d ∈ ds ∧ F__law_pick [t.od, .v row] = .ok (.v d) [some (Tp.od t'), none] := by
  have b := dr_ok t (m := (ds.length : Int)) (by omega) (by omega)
  obtain ⟨n, hn⟩ := Int.eq_ofNat_of_zero_le b.1
  have hn2 : n < ds.length := by omega
  refine ⟨ds[n], (dr t ds.length).2, List.getElem_mem hn2, ?_⟩
  unfold F__law_pick m__law_pick
  have e := b.2.2
  rw [hn] at e
  rcases hr with rfl | rfl <;> simp only [↓bind_e, bindL_ok, bindL_exc, bindL_stuck, defM_e, mApp_e, mBm_e, mTake_e, mC_e, mVar_e, gotV_some, mFz_e, asB_e, isB_bl, mB_e, bAnd_e, bOr_e, bNot_e, mIf_e, zNext_e, zBreak_e, zCont_e, thenS_nx, thenS_rt, thenS_bk, thenS_ct, zSeq_e, zSet_e, zRet_e, zRetN_e, zDrop_e, zIf_e, zSetIx_e, zForIn_e, zLoop_nx, zLoop_ct, zLoop_bk, zLoop_rt, ofO_some, ofS_some, ofI_some, zIt_e, zRng1_e, callO_some, retO_ok, retO_exc, mCall_e, takeP_some, takeAll_nil, takeAll_own, takeAll_plc, putP_none, putBack_plc, putBack_own, putBack_nil, retD_rt, retD_nx, retD_exc, opIx_lst, opIx_rol, opIx_tup, opEq_int, opNe_int, opEq_str, opNe_str, opAdd_int, opSub_int, opLt_int, opLe_int, opGt_int, opGe_int, opAbs_int, opInt_int, opInt_bl, opLen_lst, opLen_rol, opLen_tup, opList_lst, opList_rol, opList_tup, fz_v, fz_l, fzs_nil, fzs_cons, fzs_mv, shs_nil, shs_cons, shs_v, sh_v, sh_l, ev_val, ev_plc, evAll_nil, evAll_cons, okPl_nil, okPl_val, okPl_plc, res_nil, res_own, res_plc, putS_e, putIx_l, back_nil, back_t, back_f, tgt_name, tgt_tup, setAll_nil, setAll_cons, items_lst, items_tup, items_str, slotIs, T_str, T_list, T_dict, T_int, isKd, kdOf, beq_self_eq_true, kLst_e, kLstO_e, kTup_e, mLst_e, mLstO_e, mTup_e, mDict_e, wipeE_nil, wipeE_cons, atI_0, ixN_0, atI_1, ixN_1, atI_2, ixN_2, atI_3, ixN_3, atI_4, ixN_4, atI_5, ixN_5, atI_6, ixN_6, atI_7, ixN_7, atI_8, ixN_8, atI_9, ixN_9, atI_10, ixN_10, atI_11, ixN_11, atI_12, ixN_12, atI_13, ixN_13, atI_14, ixN_14, atI_15, ixN_15, ixN_nat, atI_ofNat, opMul_r, opMul_l, opFdv_p, opMod_p, opPow_10_18, or_true, true_or, Int.reduceLT, Int.reduceNeg, Int.reduceLE, Int.reducePow, Int.reduceEq, Int.natAbs, Int.reduceAbs, N.Out_bind_ok, N.Out_bind_exc, N.Out_bind_stuck, N.Option_map_some, N.Option_map_none, N.Option_bind_some, N.Option_bind_none, N.Option_join_some, N.Option_isSome_some, Bool.and_true, Bool.true_and, Bool.and_self, Bool.or_true, Bool.true_or, Bool.or_false, Bool.false_or, Bool.not_true, Bool.not_false, Bool.false_eq_true, if_true, if_false, ite_true, ite_false, N.List_length_cons, N.List_length_nil, N.List_map_cons, N.List_map_nil, N.List_cons_append, N.List_nil_append, List.replicate, N.List_getElemQ_cons_zero, N.List_getElemQ_cons_succ, N.List_set_cons_zero, N.List_set_cons_succ, decide_true, decide_false, reduceIte, Nat.reduceAdd, Nat.reduceSub, Nat.reduceLT, Nat.reduceLeDiff, Nat.reduceEqDiff, Nat.zero_add, Nat.succ_eq_add_one, eq_self, ne_eq, not_true_eq_false, not_false_eq_true, and_self, and_true, true_and, e, List.getElem?_eq_getElem hn2]
def sts : List Str := ["text", "less", "bang", "bangs", "comment", "dash", "dashes", "tag", "value", "entity"]
def chk (s : Str) (b : Nat) : Bool := match F_next_state [.v (.str s), .v (.int b)], F__law_next [.v (.str s), .v (.int b)] with
  | .ok (.v (.str z)) [none, none], .ok (.v (.str y)) [none, none] => decide (z = y) && sts.contains z
  | _, _ => false
theorem chk_0 : ((List.range 256).all fun b => chk "text" b) = true := by decide +kernel
theorem chk_1 : ((List.range 256).all fun b => chk "less" b) = true := by decide +kernel
theorem chk_2 : ((List.range 256).all fun b => chk "bang" b) = true := by decide +kernel
theorem chk_3 : ((List.range 256).all fun b => chk "bangs" b) = true := by decide +kernel
theorem chk_4 : ((List.range 256).all fun b => chk "comment" b) = true := by decide +kernel
theorem chk_5 : ((List.range 256).all fun b => chk "dash" b) = true := by decide +kernel
theorem chk_6 : ((List.range 256).all fun b => chk "dashes" b) = true := by decide +kernel
theorem chk_7 : ((List.range 256).all fun b => chk "tag" b) = true := by decide +kernel
theorem chk_8 : ((List.range 256).all fun b => chk "value" b) = true := by decide +kernel
theorem chk_9 : ((List.range 256).all fun b => chk "entity" b) = true := by decide +kernel
theorem chk_all {s : Str} {b : Nat} (hs : s ∈ sts) (hb : b < 256) : chk s b = true := by
  have key : ∀ {s : Str}, ((List.range 256).all fun b => chk s b) = true → chk s b = true := fun h => List.all_eq_true.mp h b (List.mem_range.mpr hb)
  unfold sts at hs
  simp only [List.mem_cons, List.not_mem_nil, or_false] at hs
  rcases hs with rfl | rfl | rfl | rfl | rfl | rfl | rfl | rfl | rfl | rfl
  · exact key chk_0
  · exact key chk_1
  · exact key chk_2
  · exact key chk_3
  · exact key chk_4
  · exact key chk_5
  · exact key chk_6
  · exact key chk_7
  · exact key chk_8
  · exact key chk_9
def nx (s : Str) (b : Nat) : Str := match F_next_state [.v (.str s), .v (.int b)] with
  | .ok (.v (.str z)) _ => z
  | _ => s
theorem nx_ok {s : Str} {b : Nat} (hs : s ∈ sts) (hb : b < 256) : F_next_state [.v (.str s), .v (.int b)] = .ok (.v (.str (nx s b))) [none, none] ∧ F__law_next [.v (.str s), .v (.int b)] = .ok (.v (.str (nx s b))) [none, none] ∧ nx s b ∈ sts := by
  have h := chk_all hs hb
  unfold chk at h
  split at h
  · rename_i z y e1 e2
    simp only [Bool.and_eq_true, decide_eq_true_eq, List.contains_iff_mem] at h
    obtain ⟨rfl, h⟩ := h
    have : nx s b = z := by unfold nx; rw [e1]
    rw [this]
    exact ⟨e1, e2, h⟩
  · cases h
end Lw
namespace Lw
open PySem L2 Vs VsEv
def rows : List Str := ["<a>", "</b>", "<a x=\"1>2\">", "<c/>", "&lt;", "&amp;", "<!-- - -->", "<!---->", "<!--&<\">-->", "t", ">", "\"", "-", ";", "!"]
def good (z : Str) : Bool := decide (z.cps.toList.foldl nx "text" = "text") && (z.cps.toList.all fun c => decide (c < 256)) && decide (z.length ≤ 20)
theorem rows_good : (rows.all good) = true := by decide +kernel
theorem join_nil (ys : List Str) : (Txt.join "" ys).cps.toList = ys.flatMap fun y => y.cps.toList := by
  rw [TL.join_eq]
  show TL.tl (Str.join "" ys) = _
  rw [TL.tl_join]
  have : ∀ ps : List (List Nat), TL.joinL (TL.tl "") ps = ps.flatten := fun ps => by
    induction ps with
    | nil => rfl
    | cons p r ih =>
      cases r with
      | nil => simp [TL.joinL]
      | cons q r =>
        show p ++ (TL.tl "" ++ TL.joinL (TL.tl "") (q :: r)) = _
        rw [ih]
        have : TL.tl "" = [] := rfl
        rw [this]
        simp
  rw [this, List.flatMap_def]
theorem rng_len (lo : Int) (n : Nat) : (rngD lo n).length = n := by simp [rngD]
/-- the text: rows, one behind the other -/
theorem text_ex (t : Tp) : ∃ z t', F__law_text [t.od] = .ok (.v (.str z)) [some (Tp.od t')] ∧ z.cps.toList.foldl nx "text" = "text" ∧ ∀ c ∈ z.cps.toList, c < 256 := by
  have b := dr_ok t (m := 12) (by omega) (by omega)
  let I : Vs.Env → Prop := fun ρ => ∃ t' : Tp, ρ = [some t'.od, some (.v (.lst (rows.map .str))), none]
  have cs := comp_step (tg := .name 2) (vs := [2]) (e := mCall F__law_pick [.plc 0, .val true (mVar 1)]) (I := I) (P := fun d => ∃ y : Str, y ∈ rows ∧ d = .str y) (fun d ρ i => by
    obtain ⟨t', rfl⟩ := i
    obtain ⟨d', t2, hd, e⟩ := pick_ex t' (.lst (rows.map .str)) (rows.map .str) (.inl rfl) (by decide) (by decide)
    obtain ⟨y, hy, rfl⟩ := List.mem_map.mp hd
    refine ⟨_, .v (.str y), [some t2.od, some (.v (.lst (rows.map .str))), some (.v d)], rfl, ?_, ⟨y, hy, fz_v⟩, ⟨t2, rfl⟩⟩
    simp only [↓bind_e, bindL_ok, bindL_exc, bindL_stuck, defM_e, mApp_e, mBm_e, mTake_e, mC_e, mVar_e, gotV_some, mFz_e, asB_e, isB_bl, mB_e, bAnd_e, bOr_e, bNot_e, mIf_e, zNext_e, zBreak_e, zCont_e, thenS_nx, thenS_rt, thenS_bk, thenS_ct, zSeq_e, zSet_e, zRet_e, zRetN_e, zDrop_e, zIf_e, zSetIx_e, zForIn_e, zLoop_nx, zLoop_ct, zLoop_bk, zLoop_rt, ofO_some, ofS_some, ofI_some, zIt_e, zRng1_e, callO_some, retO_ok, retO_exc, mCall_e, takeP_some, takeAll_nil, takeAll_own, takeAll_plc, putP_none, putBack_plc, putBack_own, putBack_nil, retD_rt, retD_nx, retD_exc, opIx_lst, opIx_rol, opIx_tup, opEq_int, opNe_int, opEq_str, opNe_str, opAdd_int, opSub_int, opLt_int, opLe_int, opGt_int, opGe_int, opAbs_int, opInt_int, opInt_bl, opLen_lst, opLen_rol, opLen_tup, opList_lst, opList_rol, opList_tup, fz_v, fz_l, fzs_nil, fzs_cons, fzs_mv, shs_nil, shs_cons, shs_v, sh_v, sh_l, ev_val, ev_plc, evAll_nil, evAll_cons, okPl_nil, okPl_val, okPl_plc, res_nil, res_own, res_plc, putS_e, putIx_l, back_nil, back_t, back_f, tgt_name, tgt_tup, setAll_nil, setAll_cons, items_lst, items_tup, items_str, slotIs, T_str, T_list, T_dict, T_int, isKd, kdOf, beq_self_eq_true, kLst_e, kLstO_e, kTup_e, mLst_e, mLstO_e, mTup_e, mDict_e, wipeE_nil, wipeE_cons, atI_0, ixN_0, atI_1, ixN_1, atI_2, ixN_2, atI_3, ixN_3, atI_4, ixN_4, atI_5, ixN_5, atI_6, ixN_6, atI_7, ixN_7, atI_8, ixN_8, atI_9, ixN_9, atI_10, ixN_10, atI_11, ixN_11, atI_12, ixN_12, atI_13, ixN_13, atI_14, ixN_14, atI_15, ixN_15, ixN_nat, atI_ofNat, opMul_r, opMul_l, opFdv_p, opMod_p, opPow_10_18, or_true, true_or, Int.reduceLT, Int.reduceNeg, Int.reduceLE, Int.reducePow, Int.reduceEq, Int.natAbs, Int.reduceAbs, N.Out_bind_ok, N.Out_bind_exc, N.Out_bind_stuck, N.Option_map_some, N.Option_map_none, N.Option_bind_some, N.Option_bind_none, N.Option_join_some, N.Option_isSome_some, Bool.and_true, Bool.true_and, Bool.and_self, Bool.or_true, Bool.true_or, Bool.or_false, Bool.false_or, Bool.not_true, Bool.not_false, Bool.false_eq_true, if_true, if_false, ite_true, ite_false, N.List_length_cons, N.List_length_nil, N.List_map_cons, N.List_map_nil, N.List_cons_append, N.List_nil_append, List.replicate, N.List_getElemQ_cons_zero, N.List_getElemQ_cons_succ, N.List_set_cons_zero, N.List_set_cons_succ, decide_true, decide_false, reduceIte, Nat.reduceAdd, Nat.reduceSub, Nat.reduceLT, Nat.reduceLeDiff, Nat.reduceEqDiff, Nat.zero_add, Nat.succ_eq_add_one, eq_self, ne_eq, not_true_eq_false, not_false_eq_true, and_self, and_true, true_and, e]) (rngD 0 (dr t 12).1.toNat) [] [some (dr t 12).2.od, some (.v (.lst (rows.map .str))), none] (by rw [rng_len]; have := b.2.1; simp [sizeLine]; omega) (by simp) ⟨_, rfl⟩
  obtain ⟨out, ρ', e1, ⟨t', rfl⟩, h1, h2⟩ := cs
  have : ∃ ys : List Str, out = ys.map .str ∧ ∀ y ∈ ys, y ∈ rows := by
    clear e1 h2
    induction out with
    | nil => exact ⟨[], rfl, by simp⟩
    | cons d ds ih =>
      obtain ⟨y, hy, rfl⟩ := h1 d List.mem_cons_self
      obtain ⟨ys, rfl, h⟩ := ih fun d hd => h1 d (List.mem_cons_of_mem _ hd)
      exact ⟨y :: ys, rfl, by simpa using ⟨hy, h⟩⟩
  obtain ⟨ys, rfl, hy⟩ := this
  have gd : ∀ y ∈ ys, good y = true := fun y h => List.all_eq_true.mp rows_good y (hy y h)
  have hlen : ys.length ≤ 12 := by
    rw [rng_len, List.length_map] at h2
    simp only [List.length_nil] at h2
    have := b.2.1
    omega
  have hsum : (ys.map (·.length)).sum ≤ ys.length * 20 := by
    clear e1 h1 h2 hy hlen
    induction ys with
    | nil => simp
    | cons y ys ih =>
      have := ih fun z h => gd z (List.mem_cons_of_mem _ h)
      have g := gd y List.mem_cons_self
      simp only [good, Bool.and_eq_true, decide_eq_true_eq] at g
      simp only [List.map_cons, List.sum_cons, List.length_cons]
      omega
  have hj : (ys.map (·.length)).sum + ys.length * (("" : Str)).length ≤ 16777216 := by
    have : (("" : Str)).length = 0 := rfl
    rw [this]; omega
  refine ⟨Txt.join "" ys, t', ?_, ?_, ?_⟩
  · unfold F__law_text m__law_text
    have e0 := b.2.2
    have er : rng1 (.v (.int (dr t 12).1)) = some (rngD 0 (dr t 12).1.toNat) := rng1_int ⟨by have := b.1; omega, by have := b.2.1; omega⟩
    unfold rows at e1
    simp only [List.map_cons, List.map_nil] at e1
    simp only [↓bind_e, bindL_ok, bindL_exc, bindL_stuck, defM_e, mApp_e, mBm_e, mTake_e, mC_e, mVar_e, gotV_some, mFz_e, asB_e, isB_bl, mB_e, bAnd_e, bOr_e, bNot_e, mIf_e, zNext_e, zBreak_e, zCont_e, thenS_nx, thenS_rt, thenS_bk, thenS_ct, zSeq_e, zSet_e, zRet_e, zRetN_e, zDrop_e, zIf_e, zSetIx_e, zForIn_e, zLoop_nx, zLoop_ct, zLoop_bk, zLoop_rt, ofO_some, ofS_some, ofI_some, zIt_e, zRng1_e, callO_some, retO_ok, retO_exc, mCall_e, takeP_some, takeAll_nil, takeAll_own, takeAll_plc, putP_none, putBack_plc, putBack_own, putBack_nil, retD_rt, retD_nx, retD_exc, opIx_lst, opIx_rol, opIx_tup, opEq_int, opNe_int, opEq_str, opNe_str, opAdd_int, opSub_int, opLt_int, opLe_int, opGt_int, opGe_int, opAbs_int, opInt_int, opInt_bl, opLen_lst, opLen_rol, opLen_tup, opList_lst, opList_rol, opList_tup, fz_v, fz_l, fzs_nil, fzs_cons, fzs_mv, shs_nil, shs_cons, shs_v, sh_v, sh_l, ev_val, ev_plc, evAll_nil, evAll_cons, okPl_nil, okPl_val, okPl_plc, res_nil, res_own, res_plc, putS_e, putIx_l, back_nil, back_t, back_f, tgt_name, tgt_tup, setAll_nil, setAll_cons, items_lst, items_tup, items_str, slotIs, T_str, T_list, T_dict, T_int, isKd, kdOf, beq_self_eq_true, kLst_e, kLstO_e, kTup_e, mLst_e, mLstO_e, mTup_e, mDict_e, wipeE_nil, wipeE_cons, atI_0, ixN_0, atI_1, ixN_1, atI_2, ixN_2, atI_3, ixN_3, atI_4, ixN_4, atI_5, ixN_5, atI_6, ixN_6, atI_7, ixN_7, atI_8, ixN_8, atI_9, ixN_9, atI_10, ixN_10, atI_11, ixN_11, atI_12, ixN_12, atI_13, ixN_13, atI_14, ixN_14, atI_15, ixN_15, ixN_nat, atI_ofNat, opMul_r, opMul_l, opFdv_p, opMod_p, opPow_10_18, or_true, true_or, Int.reduceLT, Int.reduceNeg, Int.reduceLE, Int.reducePow, Int.reduceEq, Int.natAbs, Int.reduceAbs, N.Out_bind_ok, N.Out_bind_exc, N.Out_bind_stuck, N.Option_map_some, N.Option_map_none, N.Option_bind_some, N.Option_bind_none, N.Option_join_some, N.Option_isSome_some, Bool.and_true, Bool.true_and, Bool.and_self, Bool.or_true, Bool.true_or, Bool.or_false, Bool.false_or, Bool.not_true, Bool.not_false, Bool.false_eq_true, if_true, if_false, ite_true, ite_false, N.List_length_cons, N.List_length_nil, N.List_map_cons, N.List_map_nil, N.List_cons_append, N.List_nil_append, List.replicate, N.List_getElemQ_cons_zero, N.List_getElemQ_cons_succ, N.List_set_cons_zero, N.List_set_cons_succ, decide_true, decide_false, reduceIte, Nat.reduceAdd, Nat.reduceSub, Nat.reduceLT, Nat.reduceLeDiff, Nat.reduceEqDiff, Nat.zero_add, Nat.succ_eq_add_one, eq_self, ne_eq, not_true_eq_false, not_false_eq_true, and_self, and_true, true_and, e0, er, mComp_e, e1, opJoin_strs hj]
  · rw [join_nil]
    clear e1 h1 h2 hy hlen hsum hj
    induction ys with
    | nil => rfl
    | cons y ys ih =>
      have g := gd y List.mem_cons_self
      simp only [good, Bool.and_eq_true, decide_eq_true_eq] at g
      rw [List.flatMap_cons, List.foldl_append, g.1.1]
      exact ih fun z h => gd z (List.mem_cons_of_mem _ h)
  · rw [join_nil]
    intro c hc
    obtain ⟨y, h3, h4⟩ := List.mem_flatMap.mp hc
    have g := gd y h3
    simp only [good, Bool.and_eq_true, decide_eq_true_eq, List.all_eq_true] at g
    exact g.1.2 c h4
end Lw
namespace Lw
open PySem L2 Vs VsEv
theorem dr_nat (t : Tp) {m : Int} (h0 : 0 < m) (h1 : m < 1073741824) : ∃ n : Nat, (dr t m).1 = (n : Int) ∧ (n : Int) < m := by
  have b := dr_ok t h0 h1
  obtain ⟨n, hn⟩ := Int.eq_ofNat_of_zero_le b.1
  exact ⟨n, hn, by have := b.2.1; omega⟩
theorem byte_loop (s0 : Option OD) (s : Str) (hs : s ∈ sts) (t : Tp) (bs : List Nat) (hb : ∀ b ∈ bs, b < 256) (a3 : Option OD) : ∃ a3', zFor (.name 3) (zIf (asB (mApp opNe [.val true (mCall F_next_state [.val true (mVar 2), .val true (mVar 3)]), .val true (mCall F__law_next [.val true (mVar 2), .val true (mVar 3)])])) (zRet (mC (.bl false))) zNext) (bs.map fun b : Nat => D.int b) [s0, some t.od, some (.v (.str s)), a3, none, none, none] = .ok .nx [s0, some t.od, some (.v (.str s)), a3', none, none, none] := by
  let I : List D → Vs.Env → Prop := fun ds ρ => ∃ (bs : List Nat) (a3 : Option OD), ds = bs.map (fun b : Nat => D.int b) ∧ (∀ b ∈ bs, b < 256) ∧ ρ = [s0, some t.od, some (.v (.str s)), a3, none, none, none]
  obtain ⟨ρ', e, bs', a3', _, _, rfl⟩ := for_step (tg := .name 3) (f := zIf (asB (mApp opNe [.val true (mCall F_next_state [.val true (mVar 2), .val true (mVar 3)]), .val true (mCall F__law_next [.val true (mVar 2), .val true (mVar 3)])])) (zRet (mC (.bl false))) zNext) (I := I) (fun d ds ρ i => by
    obtain ⟨bs, a3, e, hb, rfl⟩ := i
    cases bs with
    | nil => cases e
    | cons b bs =>
      injection e with e1 e2
      subst e1 e2
      obtain ⟨h1, h2, _⟩ := nx_ok hs (hb b List.mem_cons_self)
      refine ⟨_, [s0, some t.od, some (.v (.str s)), some (.v (.int b)), none, none, none], rfl, ?_, ⟨bs, _, rfl, fun c hc => hb c (List.mem_cons_of_mem _ hc), rfl⟩⟩
      simp only [↓bind_e, bindL_ok, bindL_exc, bindL_stuck, defM_e, mApp_e, mBm_e, mTake_e, mC_e, mVar_e, gotV_some, mFz_e, asB_e, isB_bl, mB_e, bAnd_e, bOr_e, bNot_e, mIf_e, zNext_e, zBreak_e, zCont_e, thenS_nx, thenS_rt, thenS_bk, thenS_ct, zSeq_e, zSet_e, zRet_e, zRetN_e, zDrop_e, zIf_e, zSetIx_e, zForIn_e, zLoop_nx, zLoop_ct, zLoop_bk, zLoop_rt, ofO_some, ofS_some, ofI_some, zIt_e, zRng1_e, callO_some, retO_ok, retO_exc, mCall_e, takeP_some, takeAll_nil, takeAll_own, takeAll_plc, putP_none, putBack_plc, putBack_own, putBack_nil, retD_rt, retD_nx, retD_exc, opIx_lst, opIx_rol, opIx_tup, opEq_int, opNe_int, opEq_str, opNe_str, opAdd_int, opSub_int, opLt_int, opLe_int, opGt_int, opGe_int, opAbs_int, opInt_int, opInt_bl, opLen_lst, opLen_rol, opLen_tup, opList_lst, opList_rol, opList_tup, fz_v, fz_l, fzs_nil, fzs_cons, fzs_mv, shs_nil, shs_cons, shs_v, sh_v, sh_l, ev_val, ev_plc, evAll_nil, evAll_cons, okPl_nil, okPl_val, okPl_plc, res_nil, res_own, res_plc, putS_e, putIx_l, back_nil, back_t, back_f, tgt_name, tgt_tup, setAll_nil, setAll_cons, items_lst, items_tup, items_str, slotIs, T_str, T_list, T_dict, T_int, isKd, kdOf, beq_self_eq_true, kLst_e, kLstO_e, kTup_e, mLst_e, mLstO_e, mTup_e, mDict_e, wipeE_nil, wipeE_cons, atI_0, ixN_0, atI_1, ixN_1, atI_2, ixN_2, atI_3, ixN_3, atI_4, ixN_4, atI_5, ixN_5, atI_6, ixN_6, atI_7, ixN_7, atI_8, ixN_8, atI_9, ixN_9, atI_10, ixN_10, atI_11, ixN_11, atI_12, ixN_12, atI_13, ixN_13, atI_14, ixN_14, atI_15, ixN_15, ixN_nat, atI_ofNat, opMul_r, opMul_l, opFdv_p, opMod_p, opPow_10_18, or_true, true_or, Int.reduceLT, Int.reduceNeg, Int.reduceLE, Int.reducePow, Int.reduceEq, Int.natAbs, Int.reduceAbs, N.Out_bind_ok, N.Out_bind_exc, N.Out_bind_stuck, N.Option_map_some, N.Option_map_none, N.Option_bind_some, N.Option_bind_none, N.Option_join_some, N.Option_isSome_some, Bool.and_true, Bool.true_and, Bool.and_self, Bool.or_true, Bool.true_or, Bool.or_false, Bool.false_or, Bool.not_true, Bool.not_false, Bool.false_eq_true, if_true, if_false, ite_true, ite_false, N.List_length_cons, N.List_length_nil, N.List_map_cons, N.List_map_nil, N.List_cons_append, N.List_nil_append, List.replicate, N.List_getElemQ_cons_zero, N.List_getElemQ_cons_succ, N.List_set_cons_zero, N.List_set_cons_succ, decide_true, decide_false, reduceIte, Nat.reduceAdd, Nat.reduceSub, Nat.reduceLT, Nat.reduceLeDiff, Nat.reduceEqDiff, Nat.zero_add, Nat.succ_eq_add_one, eq_self, ne_eq, not_true_eq_false, not_false_eq_true, and_self, and_true, true_and, h1, h2]) (bs.map fun b : Nat => D.int b) _ ⟨bs, a3, rfl, hb, rfl⟩
  exact ⟨a3', e⟩
theorem state_loop (s0 : Option OD) (t : Tp) : ∃ t' a2 a3, zFor (.name 2) (zForIn (zIt (mLst [.val true (mC (.int 60)), .val true (mC (.int 62)), .val true (mC (.int 38)), .val true (mC (.int 59)), .val true (mC (.int 45)), .val true (mC (.int 33)), .val true (mC (.int 34)), .val true (mC (.int 47)), .val true (mC (.int 97)), .val true (mC (.int 32)), .val true (mC (.int 10)), .val true (mC (.int 9)), .val false (mCall F__law_draw [.plc 1, .val true (mC (.int 256))]), .val false (mCall F__law_draw [.plc 1, .val true (mC (.int 127))])])) (.name 3) (zIf (asB (mApp opNe [.val true (mCall F_next_state [.val true (mVar 2), .val true (mVar 3)]), .val true (mCall F__law_next [.val true (mVar 2), .val true (mVar 3)])])) (zRet (mC (.bl false))) zNext)) (sts.map .str) [s0, some t.od, none, none, none, none, none] = .ok .nx [s0, some (Tp.od t'), a2, a3, none, none, none] := by
  let I : List D → Vs.Env → Prop := fun ds ρ => ∃ (xs : List Str) (t : Tp) (a2 a3 : Option OD), ds = xs.map .str ∧ (∀ x ∈ xs, x ∈ sts) ∧ ρ = [s0, some t.od, a2, a3, none, none, none]
  obtain ⟨ρ', e, xs', t', a2', a3', _, _, rfl⟩ := for_step (tg := .name 2) (f := zForIn (zIt (mLst [.val true (mC (.int 60)), .val true (mC (.int 62)), .val true (mC (.int 38)), .val true (mC (.int 59)), .val true (mC (.int 45)), .val true (mC (.int 33)), .val true (mC (.int 34)), .val true (mC (.int 47)), .val true (mC (.int 97)), .val true (mC (.int 32)), .val true (mC (.int 10)), .val true (mC (.int 9)), .val false (mCall F__law_draw [.plc 1, .val true (mC (.int 256))]), .val false (mCall F__law_draw [.plc 1, .val true (mC (.int 127))])])) (.name 3) (zIf (asB (mApp opNe [.val true (mCall F_next_state [.val true (mVar 2), .val true (mVar 3)]), .val true (mCall F__law_next [.val true (mVar 2), .val true (mVar 3)])])) (zRet (mC (.bl false))) zNext)) (I := I) (fun d ds ρ i => by
    obtain ⟨xs, t, a2, a3, e, hx, rfl⟩ := i
    cases xs with
    | nil => cases e
    | cons s xs =>
      injection e with e1 e2
      subst e1 e2
      obtain ⟨n1, h1, l1⟩ := dr_nat t (m := 256) (by omega) (by omega)
      obtain ⟨n2, h2, l2⟩ := dr_nat (dr t 256).2 (m := 127) (by omega) (by omega)
      obtain ⟨a3', h3⟩ := byte_loop s0 s (hx s List.mem_cons_self) (dr (dr t 256).2 127).2 [60, 62, 38, 59, 45, 33, 34, 47, 97, 32, 10, 9, n1, n2] (by intro b hb; simp only [List.mem_cons, List.not_mem_nil, or_false] at hb; omega) a3
      refine ⟨_, [s0, some (dr (dr t 256).2 127).2.od, some (.v (.str s)), a3', none, none, none], rfl, ?_, ⟨xs, _, _, a3', rfl, fun c hc => hx c (List.mem_cons_of_mem _ hc), rfl⟩⟩
      simp only [↓bind_e, bindL_ok, bindL_exc, bindL_stuck, defM_e, mApp_e, mBm_e, mTake_e, mC_e, mVar_e, gotV_some, mFz_e, asB_e, isB_bl, mB_e, bAnd_e, bOr_e, bNot_e, mIf_e, zNext_e, zBreak_e, zCont_e, thenS_nx, thenS_rt, thenS_bk, thenS_ct, zSeq_e, zSet_e, zRet_e, zRetN_e, zDrop_e, zIf_e, zSetIx_e, zForIn_e, zLoop_nx, zLoop_ct, zLoop_bk, zLoop_rt, ofO_some, ofS_some, ofI_some, zIt_e, zRng1_e, callO_some, retO_ok, retO_exc, mCall_e, takeP_some, takeAll_nil, takeAll_own, takeAll_plc, putP_none, putBack_plc, putBack_own, putBack_nil, retD_rt, retD_nx, retD_exc, opIx_lst, opIx_rol, opIx_tup, opEq_int, opNe_int, opEq_str, opNe_str, opAdd_int, opSub_int, opLt_int, opLe_int, opGt_int, opGe_int, opAbs_int, opInt_int, opInt_bl, opLen_lst, opLen_rol, opLen_tup, opList_lst, opList_rol, opList_tup, fz_v, fz_l, fzs_nil, fzs_cons, fzs_mv, shs_nil, shs_cons, shs_v, sh_v, sh_l, ev_val, ev_plc, evAll_nil, evAll_cons, okPl_nil, okPl_val, okPl_plc, res_nil, res_own, res_plc, putS_e, putIx_l, back_nil, back_t, back_f, tgt_name, tgt_tup, setAll_nil, setAll_cons, items_lst, items_tup, items_str, slotIs, T_str, T_list, T_dict, T_int, isKd, kdOf, beq_self_eq_true, kLst_e, kLstO_e, kTup_e, mLst_e, mLstO_e, mTup_e, mDict_e, wipeE_nil, wipeE_cons, atI_0, ixN_0, atI_1, ixN_1, atI_2, ixN_2, atI_3, ixN_3, atI_4, ixN_4, atI_5, ixN_5, atI_6, ixN_6, atI_7, ixN_7, atI_8, ixN_8, atI_9, ixN_9, atI_10, ixN_10, atI_11, ixN_11, atI_12, ixN_12, atI_13, ixN_13, atI_14, ixN_14, atI_15, ixN_15, ixN_nat, atI_ofNat, opMul_r, opMul_l, opFdv_p, opMod_p, opPow_10_18, or_true, true_or, Int.reduceLT, Int.reduceNeg, Int.reduceLE, Int.reducePow, Int.reduceEq, Int.natAbs, Int.reduceAbs, N.Out_bind_ok, N.Out_bind_exc, N.Out_bind_stuck, N.Option_map_some, N.Option_map_none, N.Option_bind_some, N.Option_bind_none, N.Option_join_some, N.Option_isSome_some, Bool.and_true, Bool.true_and, Bool.and_self, Bool.or_true, Bool.true_or, Bool.or_false, Bool.false_or, Bool.not_true, Bool.not_false, Bool.false_eq_true, if_true, if_false, ite_true, ite_false, N.List_length_cons, N.List_length_nil, N.List_map_cons, N.List_map_nil, N.List_cons_append, N.List_nil_append, List.replicate, N.List_getElemQ_cons_zero, N.List_getElemQ_cons_succ, N.List_set_cons_zero, N.List_set_cons_succ, decide_true, decide_false, reduceIte, Nat.reduceAdd, Nat.reduceSub, Nat.reduceLT, Nat.reduceLeDiff, Nat.reduceEqDiff, Nat.zero_add, Nat.succ_eq_add_one, eq_self, ne_eq, not_true_eq_false, not_false_eq_true, and_self, and_true, true_and, draw_e, h1, h2]
      exact h3) (sts.map .str) _ ⟨sts, t, none, none, rfl, fun _ h => h, rfl⟩
  exact ⟨t', a2', a3', e⟩
theorem text_loop (s0 a1 a3 : Option OD) (cs : List Nat) (s : Str) (hs : s ∈ sts) (hc : ∀ c ∈ cs, c < 256) : ∃ a4, zFor (.name 4) (zSet 2 (mFz (mCall F_next_state [.val true (mVar 2), .val true (mApp opOrd [.val true (mVar 4)])]))) (cs.map fun c => D.str ⟨#[c]⟩) [s0, a1, some (.v (.str s)), a3, none, none, none] = .ok .nx [s0, a1, some (.v (.str (cs.foldl nx s))), a3, a4, none, none] := by
  let I : List D → Vs.Env → Prop := fun ds ρ => ∃ (ds' : List Nat) (s' : Str) (a4 : Option OD), ds = ds'.map (fun c => D.str ⟨#[c]⟩) ∧ s' ∈ sts ∧ ds'.foldl nx s' = cs.foldl nx s ∧ (∀ c ∈ ds', c < 256) ∧ ρ = [s0, a1, some (.v (.str s')), a3, a4, none, none]
  obtain ⟨ρ', e, ds', s', a4, h1, _, h2, _, rfl⟩ := for_step (tg := .name 4) (f := zSet 2 (mFz (mCall F_next_state [.val true (mVar 2), .val true (mApp opOrd [.val true (mVar 4)])]))) (I := I) (fun d ds ρ i => by
    obtain ⟨ds', s', a4, e, hs, hf, hc, rfl⟩ := i
    cases ds' with
    | nil => cases e
    | cons c ds' =>
      injection e with e1 e2
      subst e1 e2
      obtain ⟨h1, _, h2⟩ := nx_ok hs (hc c List.mem_cons_self)
      refine ⟨_, [s0, a1, some (.v (.str (nx s' c))), a3, some (.v (.str ⟨#[c]⟩)), none, none], rfl, ?_, ⟨ds', nx s' c, _, rfl, h2, hf, fun c' h => hc c' (List.mem_cons_of_mem _ h), rfl⟩⟩
      simp only [↓bind_e, bindL_ok, bindL_exc, bindL_stuck, defM_e, mApp_e, mBm_e, mTake_e, mC_e, mVar_e, gotV_some, mFz_e, asB_e, isB_bl, mB_e, bAnd_e, bOr_e, bNot_e, mIf_e, zNext_e, zBreak_e, zCont_e, thenS_nx, thenS_rt, thenS_bk, thenS_ct, zSeq_e, zSet_e, zRet_e, zRetN_e, zDrop_e, zIf_e, zSetIx_e, zForIn_e, zLoop_nx, zLoop_ct, zLoop_bk, zLoop_rt, ofO_some, ofS_some, ofI_some, zIt_e, zRng1_e, callO_some, retO_ok, retO_exc, mCall_e, takeP_some, takeAll_nil, takeAll_own, takeAll_plc, putP_none, putBack_plc, putBack_own, putBack_nil, retD_rt, retD_nx, retD_exc, opIx_lst, opIx_rol, opIx_tup, opEq_int, opNe_int, opEq_str, opNe_str, opAdd_int, opSub_int, opLt_int, opLe_int, opGt_int, opGe_int, opAbs_int, opInt_int, opInt_bl, opLen_lst, opLen_rol, opLen_tup, opList_lst, opList_rol, opList_tup, fz_v, fz_l, fzs_nil, fzs_cons, fzs_mv, shs_nil, shs_cons, shs_v, sh_v, sh_l, ev_val, ev_plc, evAll_nil, evAll_cons, okPl_nil, okPl_val, okPl_plc, res_nil, res_own, res_plc, putS_e, putIx_l, back_nil, back_t, back_f, tgt_name, tgt_tup, setAll_nil, setAll_cons, items_lst, items_tup, items_str, slotIs, T_str, T_list, T_dict, T_int, isKd, kdOf, beq_self_eq_true, kLst_e, kLstO_e, kTup_e, mLst_e, mLstO_e, mTup_e, mDict_e, wipeE_nil, wipeE_cons, atI_0, ixN_0, atI_1, ixN_1, atI_2, ixN_2, atI_3, ixN_3, atI_4, ixN_4, atI_5, ixN_5, atI_6, ixN_6, atI_7, ixN_7, atI_8, ixN_8, atI_9, ixN_9, atI_10, ixN_10, atI_11, ixN_11, atI_12, ixN_12, atI_13, ixN_13, atI_14, ixN_14, atI_15, ixN_15, ixN_nat, atI_ofNat, opMul_r, opMul_l, opFdv_p, opMod_p, opPow_10_18, or_true, true_or, Int.reduceLT, Int.reduceNeg, Int.reduceLE, Int.reducePow, Int.reduceEq, Int.natAbs, Int.reduceAbs, N.Out_bind_ok, N.Out_bind_exc, N.Out_bind_stuck, N.Option_map_some, N.Option_map_none, N.Option_bind_some, N.Option_bind_none, N.Option_join_some, N.Option_isSome_some, Bool.and_true, Bool.true_and, Bool.and_self, Bool.or_true, Bool.true_or, Bool.or_false, Bool.false_or, Bool.not_true, Bool.not_false, Bool.false_eq_true, if_true, if_false, ite_true, ite_false, N.List_length_cons, N.List_length_nil, N.List_map_cons, N.List_map_nil, N.List_cons_append, N.List_nil_append, List.replicate, N.List_getElemQ_cons_zero, N.List_getElemQ_cons_succ, N.List_set_cons_zero, N.List_set_cons_succ, decide_true, decide_false, reduceIte, Nat.reduceAdd, Nat.reduceSub, Nat.reduceLT, Nat.reduceLeDiff, Nat.reduceEqDiff, Nat.zero_add, Nat.succ_eq_add_one, eq_self, ne_eq, not_true_eq_false, not_false_eq_true, and_self, and_true, true_and, h1, opOrd_1]) (cs.map fun c => D.str ⟨#[c]⟩) _ ⟨cs, s, none, rfl, hs, rfl, hc, rfl⟩
  cases ds' with
  | cons c ds' => cases h1
  | nil =>
    have h2 : s' = cs.foldl nx s := h2
    subst h2
    exact ⟨a4, e⟩
theorem last_loop (s0 : Option OD) (t : Tp) (s : Str) (hs : s ∈ sts) (a3 a4 a6 : Option OD) (ds : List D) : ∃ ρ', zFor (.name 6) (zSeq (zSet 3 (mFz (mCall F__law_pick [.plc 1, .val false (mLst [.val true (mC (.int 60)), .val true (mC (.int 62)), .val true (mC (.int 38)), .val true (mC (.int 59)), .val true (mC (.int 45)), .val true (mC (.int 45)), .val true (mC (.int 33)), .val true (mC (.int 34)), .val true (mC (.int 34)), .val true (mC (.int 47)), .val true (mC (.int 97)), .val false (mCall F__law_draw [.plc 1, .val true (mC (.int 256))])])]))) (zSeq (zSet 2 (mFz (mCall F_next_state [.val true (mVar 2), .val true (mVar 3)]))) (zSeq (zSet 5 (mFz (mCall F__law_next [.val true (mVar 5), .val true (mVar 3)]))) (zIf (asB (mApp opNe [.val true (mVar 2), .val true (mVar 5)])) (zRet (mC (.bl false))) zNext)))) ds [s0, some t.od, some (.v (.str s)), a3, a4, some (.v (.str s)), a6] = .ok .nx ρ' ∧ ∃ x, ρ' = s0 :: x ∧ x.length = 6 := by
  let I : List D → Vs.Env → Prop := fun ds ρ => ∃ (t : Tp) (s : Str) (a3 a6 : Option OD), s ∈ sts ∧ ρ = [s0, some t.od, some (.v (.str s)), a3, a4, some (.v (.str s)), a6]
  obtain ⟨ρ', e, t', s', a3', a6', _, rfl⟩ := for_step (tg := .name 6) (f := zSeq (zSet 3 (mFz (mCall F__law_pick [.plc 1, .val false (mLst [.val true (mC (.int 60)), .val true (mC (.int 62)), .val true (mC (.int 38)), .val true (mC (.int 59)), .val true (mC (.int 45)), .val true (mC (.int 45)), .val true (mC (.int 33)), .val true (mC (.int 34)), .val true (mC (.int 34)), .val true (mC (.int 47)), .val true (mC (.int 97)), .val false (mCall F__law_draw [.plc 1, .val true (mC (.int 256))])])]))) (zSeq (zSet 2 (mFz (mCall F_next_state [.val true (mVar 2), .val true (mVar 3)]))) (zSeq (zSet 5 (mFz (mCall F__law_next [.val true (mVar 5), .val true (mVar 3)]))) (zIf (asB (mApp opNe [.val true (mVar 2), .val true (mVar 5)])) (zRet (mC (.bl false))) zNext)))) (I := I) (fun d ds ρ i => by
    obtain ⟨t, s, a3, a6, hs, rfl⟩ := i
    obtain ⟨n1, h1, l1⟩ := dr_nat t (m := 256) (by omega) (by omega)
    obtain ⟨d', t2, hd, e⟩ := pick_ex (dr t 256).2 (.lst ([60, 62, 38, 59, 45, 45, 33, 34, 34, 47, 97, n1].map fun b : Nat => D.int b)) _ (.inl rfl) (by simp) (by simp)
    obtain ⟨b, hb, rfl⟩ := List.mem_map.mp hd
    have hb2 : b < 256 := by simp only [List.mem_cons, List.not_mem_nil, or_false] at hb; omega
    obtain ⟨h2, h3, h4⟩ := nx_ok hs hb2
    have e' : F__law_pick [(dr t 256).2.od, .v (.lst [.int 60, .int 62, .int 38, .int 59, .int 45, .int 45, .int 33, .int 34, .int 34, .int 47, .int 97, .int n1])] = .ok (.v (.int b)) [some t2.od, none] := e
    refine ⟨_, [s0, some t2.od, some (.v (.str (nx s b))), some (.v (.int b)), a4, some (.v (.str (nx s b))), some (.v d)], rfl, ?_, ⟨t2, nx s b, some (.v (.int b)), some (.v d), h4, rfl⟩⟩
    simp only [↓bind_e, bindL_ok, bindL_exc, bindL_stuck, defM_e, mApp_e, mBm_e, mTake_e, mC_e, mVar_e, gotV_some, mFz_e, asB_e, isB_bl, mB_e, bAnd_e, bOr_e, bNot_e, mIf_e, zNext_e, zBreak_e, zCont_e, thenS_nx, thenS_rt, thenS_bk, thenS_ct, zSeq_e, zSet_e, zRet_e, zRetN_e, zDrop_e, zIf_e, zSetIx_e, zForIn_e, zLoop_nx, zLoop_ct, zLoop_bk, zLoop_rt, ofO_some, ofS_some, ofI_some, zIt_e, zRng1_e, callO_some, retO_ok, retO_exc, mCall_e, takeP_some, takeAll_nil, takeAll_own, takeAll_plc, putP_none, putBack_plc, putBack_own, putBack_nil, retD_rt, retD_nx, retD_exc, opIx_lst, opIx_rol, opIx_tup, opEq_int, opNe_int, opEq_str, opNe_str, opAdd_int, opSub_int, opLt_int, opLe_int, opGt_int, opGe_int, opAbs_int, opInt_int, opInt_bl, opLen_lst, opLen_rol, opLen_tup, opList_lst, opList_rol, opList_tup, fz_v, fz_l, fzs_nil, fzs_cons, fzs_mv, shs_nil, shs_cons, shs_v, sh_v, sh_l, ev_val, ev_plc, evAll_nil, evAll_cons, okPl_nil, okPl_val, okPl_plc, res_nil, res_own, res_plc, putS_e, putIx_l, back_nil, back_t, back_f, tgt_name, tgt_tup, setAll_nil, setAll_cons, items_lst, items_tup, items_str, slotIs, T_str, T_list, T_dict, T_int, isKd, kdOf, beq_self_eq_true, kLst_e, kLstO_e, kTup_e, mLst_e, mLstO_e, mTup_e, mDict_e, wipeE_nil, wipeE_cons, atI_0, ixN_0, atI_1, ixN_1, atI_2, ixN_2, atI_3, ixN_3, atI_4, ixN_4, atI_5, ixN_5, atI_6, ixN_6, atI_7, ixN_7, atI_8, ixN_8, atI_9, ixN_9, atI_10, ixN_10, atI_11, ixN_11, atI_12, ixN_12, atI_13, ixN_13, atI_14, ixN_14, atI_15, ixN_15, ixN_nat, atI_ofNat, opMul_r, opMul_l, opFdv_p, opMod_p, opPow_10_18, or_true, true_or, Int.reduceLT, Int.reduceNeg, Int.reduceLE, Int.reducePow, Int.reduceEq, Int.natAbs, Int.reduceAbs, N.Out_bind_ok, N.Out_bind_exc, N.Out_bind_stuck, N.Option_map_some, N.Option_map_none, N.Option_bind_some, N.Option_bind_none, N.Option_join_some, N.Option_isSome_some, Bool.and_true, Bool.true_and, Bool.and_self, Bool.or_true, Bool.true_or, Bool.or_false, Bool.false_or, Bool.not_true, Bool.not_false, Bool.false_eq_true, if_true, if_false, ite_true, ite_false, N.List_length_cons, N.List_length_nil, N.List_map_cons, N.List_map_nil, N.List_cons_append, N.List_nil_append, List.replicate, N.List_getElemQ_cons_zero, N.List_getElemQ_cons_succ, N.List_set_cons_zero, N.List_set_cons_succ, decide_true, decide_false, reduceIte, Nat.reduceAdd, Nat.reduceSub, Nat.reduceLT, Nat.reduceLeDiff, Nat.reduceEqDiff, Nat.zero_add, Nat.succ_eq_add_one, eq_self, ne_eq, not_true_eq_false, not_false_eq_true, and_self, and_true, true_and, draw_e, h1, e', h2, h3]) ds _ ⟨t, s, a3, a6, hs, rfl⟩
  exact ⟨_, e, _, rfl, rfl⟩
theorem law_true (ns : List Int) (hl : ns.length ≤ 63) : ∃ bk, F_law [.v (.rol (ns.map .int))] = .ok (.v (.bl true)) bk := by
  unfold F_law m_law
  have hT : Tp.od ⟨0, 0, ns⟩ = .l [.v (.int 0), .v (.lst (ns.map .int)), .v (.int 0)] := rfl
  obtain ⟨t1, a2, a3, e1⟩ := state_loop (some (.v (.rol (ns.map .int)))) ⟨0, 0, ns⟩
  obtain ⟨z, t2, e2, f2, c2⟩ := text_ex t1
  obtain ⟨a4, e3⟩ := text_loop (some (.v (.rol (ns.map .int)))) (some t2.od) a3 z.cps.toList "text" (by decide) c2
  rw [f2] at e3
  obtain ⟨d, t3, hd, e4⟩ := pick_ex t2 c_STATES (sts.map .str) (.inr rfl) (by decide) (by decide)
  obtain ⟨s, hs, rfl⟩ := List.mem_map.mp hd
  obtain ⟨ρ', e5, x, rfl, hx⟩ := last_loop (some (.v (.rol (ns.map .int)))) (dr t3 61).2 s hs a3 a4 none (rngD 0 (dr t3 61).1.toNat)
  obtain ⟨n, h5, l5⟩ := dr_nat t3 (m := 61) (by omega) (by omega)
  have er : rng1 (.v (.int (dr t3 61).1)) = some (rngD 0 (dr t3 61).1.toNat) := rng1_int ⟨by omega, by omega⟩
  have hne : opNe [c_STATES, .tup [.str "text", .str "less", .str "bang", .str "bangs", .str "comment", .str "dash", .str "dashes", .str "tag", .str "value", .str "entity"]] = some (.v (.bl false)) := rfl
  have hit : items c_STATES = some (sts.map .str) := rfl
  refine ⟨[none], ?_⟩
  rw [hT] at e1
  simp only [↓bind_e, bindL_ok, bindL_exc, bindL_stuck, defM_e, mApp_e, mBm_e, mTake_e, mC_e, mVar_e, gotV_some, mFz_e, asB_e, isB_bl, mB_e, bAnd_e, bOr_e, bNot_e, mIf_e, zNext_e, zBreak_e, zCont_e, thenS_nx, thenS_rt, thenS_bk, thenS_ct, zSeq_e, zSet_e, zRet_e, zRetN_e, zDrop_e, zIf_e, zSetIx_e, zForIn_e, zLoop_nx, zLoop_ct, zLoop_bk, zLoop_rt, ofO_some, ofS_some, ofI_some, zIt_e, zRng1_e, callO_some, retO_ok, retO_exc, mCall_e, takeP_some, takeAll_nil, takeAll_own, takeAll_plc, putP_none, putBack_plc, putBack_own, putBack_nil, retD_rt, retD_nx, retD_exc, opIx_lst, opIx_rol, opIx_tup, opEq_int, opNe_int, opEq_str, opNe_str, opAdd_int, opSub_int, opLt_int, opLe_int, opGt_int, opGe_int, opAbs_int, opInt_int, opInt_bl, opLen_lst, opLen_rol, opLen_tup, opList_lst, opList_rol, opList_tup, fz_v, fz_l, fzs_nil, fzs_cons, fzs_mv, shs_nil, shs_cons, shs_v, sh_v, sh_l, ev_val, ev_plc, evAll_nil, evAll_cons, okPl_nil, okPl_val, okPl_plc, res_nil, res_own, res_plc, putS_e, putIx_l, back_nil, back_t, back_f, tgt_name, tgt_tup, setAll_nil, setAll_cons, items_lst, items_tup, items_str, slotIs, T_str, T_list, T_dict, T_int, isKd, kdOf, beq_self_eq_true, kLst_e, kLstO_e, kTup_e, mLst_e, mLstO_e, mTup_e, mDict_e, wipeE_nil, wipeE_cons, atI_0, ixN_0, atI_1, ixN_1, atI_2, ixN_2, atI_3, ixN_3, atI_4, ixN_4, atI_5, ixN_5, atI_6, ixN_6, atI_7, ixN_7, atI_8, ixN_8, atI_9, ixN_9, atI_10, ixN_10, atI_11, ixN_11, atI_12, ixN_12, atI_13, ixN_13, atI_14, ixN_14, atI_15, ixN_15, ixN_nat, atI_ofNat, opMul_r, opMul_l, opFdv_p, opMod_p, opPow_10_18, or_true, true_or, Int.reduceLT, Int.reduceNeg, Int.reduceLE, Int.reducePow, Int.reduceEq, Int.natAbs, Int.reduceAbs, N.Out_bind_ok, N.Out_bind_exc, N.Out_bind_stuck, N.Option_map_some, N.Option_map_none, N.Option_bind_some, N.Option_bind_none, N.Option_join_some, N.Option_isSome_some, Bool.and_true, Bool.true_and, Bool.and_self, Bool.or_true, Bool.true_or, Bool.or_false, Bool.false_or, Bool.not_true, Bool.not_false, Bool.false_eq_true, if_true, if_false, ite_true, ite_false, N.List_length_cons, N.List_length_nil, N.List_map_cons, N.List_map_nil, N.List_cons_append, N.List_nil_append, List.replicate, N.List_getElemQ_cons_zero, N.List_getElemQ_cons_succ, N.List_set_cons_zero, N.List_set_cons_succ, decide_true, decide_false, reduceIte, Nat.reduceAdd, Nat.reduceSub, Nat.reduceLT, Nat.reduceLeDiff, Nat.reduceEqDiff, Nat.zero_add, Nat.succ_eq_add_one, eq_self, ne_eq, not_true_eq_false, not_false_eq_true, and_self, and_true, true_and, hne, hit, e1, e2, strD, e3, e4, draw_e, er, e5]
end Lw
theorem PySem.Challenge.cw_hewstream_k95_states_of_reading_holds : PySem.Challenge.rw_hewstream_k95_states_of_reading.Holds := by
  exact Lw.head Lw.law_true
