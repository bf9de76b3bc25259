import PyProof.Rows.All
import Wide.All
import OpenK.AllK
import Wide.FinOn
import HandS.ForMost
import HandS.ForExc
import HandS.Small
import HandS.IsInst
import HandS.Flow
import HandS.TupAny
import HandS.NoneIn
import KE.DataEq
import HandS.WordsExc
import HandS.HeadHook1
import HandS.HeadHook2
import HandS.HeadEnd
import HandS.ExcIs
import HandS.TryOnly
import KE.KExcSuper
import HandS.Codes
import HandS.More
import PyProof.ExcBaseAll.ValueError
import KE.SortData
import HandS.DictTup
import HandS.ListItems
import PyProof.ListStr
import HandS.Conv
import HandS.HeadHook3
import PyProof.StrOps2
import KE.KDictWalk
import HandS.ReplaceLit
import HandS.Style
import HandS.ExcInit
import KE.KExcIs
import HandS.ExcField
import KE.KStateDown
import Lean
import HandS.Head0
import HandS.Head1
import HandS.Head2
import KE.IntTextText
import KE.KIntText
import PySem.Challenge.RW_hewstream_k11_words
set_option Elab.async false
set_option linter.all false
set_option maxRecDepth 100000
set_option maxHeartbeats 4000000
/-! VsA: values seen as data. D: what no longer changes; OD: what a name owns. -/
namespace Vs
open PySem L2

inductive D where
  | non
  | bl (b : Bool)
  | int (i : Int)
  | str (s : Str)
  | tup (xs : List D)
  | lst (xs : List D)
  | rol (xs : List D)
  | dk (ks : List Key) (xs : List D)
  | ins (c : Str) (fs : List Str) (xs : List D)
  | exn (fs : List Str) (xs : List D)

inductive OD where
  | v (d : D)
  | l (xs : List OD)
  | k (ks : List Key) (xs : List OD)
  | o (c : Str) (fs : List Str) (xs : List OD)

/-- what of the module the readings ask -/
structure Gx where
  K : PySem.W.Frag
  mg : Str → Option Value
  /-- the exception that a suite holds -/
  ea : Addr
  ed : Option Addr

abbrev AS := Addr → Prop

section
variable (G : Gx)
mutual
def Rep (F : Hp) : D → V → Prop
  | .non, v => v = .non
  | .bl b, v => v = .bl b
  | .int i, v => v = .int i
  | .str s, v => v = .str s
  | .tup ds, v => ∃ a vs, v = .ref a ∧ SqT G.K F a vs ∧ Reps F ds vs
  | .lst ds, v => ∃ a vs, v = .ref a ∧ F a = some (.lst vs) ∧ Reps F ds vs
  | .rol ds, v => ∃ a vs, v = .ref a ∧ SqL G.K F a vs ∧ Reps F ds vs
  | .dk ks ds, v => ∃ a kvs, v = .ref a ∧ Rd F a (.dK kvs) ∧ kvs.map (·.1) = ks ∧ Reps F ds (kvs.map (·.2))
  | .ins c fs ds, v => ∃ a C dx fvs, v = .ref a ∧ G.mg c = some (.ref C) ∧ F a = some (.ins C dx fvs) ∧ fvs.map (·.1) = fs ∧ Reps F ds (fvs.map (·.2))
  | .exn fs ds, v => v = .ref G.ea ∧ ((G.ed = none ∧ fs = [] ∧ ds = []) ∨ ∃ dd fvs, G.ed = some dd ∧ fs ≠ [] ∧ F dd = some (.xd fvs) ∧ fvs.map (·.1) = fs ∧ Reps F ds (fvs.map (·.2)))
def Reps (F : Hp) : List D → List V → Prop
  | [], vs => vs = []
  | d :: ds, vs => ∃ v r, vs = v :: r ∧ Rep F d v ∧ Reps F ds r
end
/-- A is made of the two parts A1, A2, that stand apart -/
def Cut (A A1 A2 : AS) : Prop := (∀ a, A a ↔ A1 a ∨ A2 a) ∧ ∀ a, A1 a → ¬ A2 a
mutual
def OT (F H : Hp) : OD → V → AS → Prop
  | .v d, v, A => Rep G F d v ∧ ∀ a, ¬ A a
  | .l xs, v, A => ∃ a vs A', v = .ref a ∧ H a = some (.lst vs) ∧ OTs F H xs vs A' ∧ Cut A (fun b => b = a) A'
  | .k ks xs, v, A => ∃ a kvs A', v = .ref a ∧ H a = some (.dK kvs) ∧ kvs.map (·.1) = ks ∧ OTs F H xs (kvs.map (·.2)) A' ∧ Cut A (fun b => b = a) A'
  | .o c fs xs, v, A => ∃ a C dx fvs A', v = .ref a ∧ G.mg c = some (.ref C) ∧ H a = some (.ins C dx fvs) ∧ fvs.map (·.1) = fs ∧ OTs F H xs (fvs.map (·.2)) A' ∧ Cut A (fun b => b = a) A'
def OTs (F H : Hp) : List OD → List V → AS → Prop
  | [], vs, A => vs = [] ∧ ∀ a, ¬ A a
  | x :: xs, vs, A => ∃ v r A1 A2, vs = v :: r ∧ OT F H x v A1 ∧ OTs F H xs r A2 ∧ Cut A A1 A2
end
end
/-- slots: what is known of them -/
abbrev Env := List (Option OD)
def Sl (G : Gx) (F H : Hp) : Env → St → AS → Prop
  | [], σ, A => σ = [] ∧ ∀ a, ¬ A a
  | none :: ρ, σ, A => ∃ x r, σ = x :: r ∧ Sl G F H ρ r A
  | some od :: ρ, σ, A => ∃ v r A1 A2, σ = some v :: r ∧ OT G F H od v A1 ∧ Sl G F H ρ r A2 ∧ Cut A A1 A2

def Le (F H : Hp) : Prop := ∀ a o, F a = some o → H a = some o
theorem Le.refl (F : Hp) : Le F F := fun _ _ h => h
theorem Le.trans {F G H : Hp} (a : Le F G) (b : Le G H) : Le F H := fun x o h => b x o (a x o h)
theorem Le.rd {F H : Hp} (e : Le F H) {a : Addr} {u : HO} (h : Rd F a u) : Rd H a u := by
  rcases h with h | ⟨o, h⟩
  · exact .inl (e _ _ h)
  · exact .inr ⟨o, e _ _ h⟩
theorem Le.sql {K : PySem.W.Frag} {F H : Hp} (e : Le F H) {a : Addr} {xs : List V} (h : SqL K F a xs) : SqL K H a xs := by
  rcases h with h | h
  · exact .inl (e.rd h)
  · exact .inr h
theorem Le.sqt {K : PySem.W.Frag} {F H : Hp} (e : Le F H) {a : Addr} {xs : List V} (h : SqT K F a xs) : SqT K H a xs := by
  rcases h with h | h
  · exact .inl (e.rd h)
  · exact .inr h
theorem Le.new {H : Hp} {p : Addr} {o : HO} (h : H p = none) : Le H (upd H p o) := fun a u e => by
  rw [upd_ne (ne_of_none e h)]
  exact e
section
variable {G : Gx} {F F' H H' : Hp}
mutual
theorem Rep.mono (e : Le F F') : ∀ {d : D} {v : V}, Rep G F d v → Rep G F' d v
  | .non, _, h => by simpa only [Rep] using h
  | .bl _, _, h => by simpa only [Rep] using h
  | .int _, _, h => by simpa only [Rep] using h
  | .str _, _, h => by simpa only [Rep] using h
  | .tup ds, v, h => by
    simp only [Rep] at h ⊢
    obtain ⟨a, vs, h1, h2, h3⟩ := h
    exact ⟨a, vs, h1, e.sqt h2, Reps.mono e h3⟩
  | .lst ds, v, h => by
    simp only [Rep] at h ⊢
    obtain ⟨a, vs, h1, h2, h3⟩ := h
    exact ⟨a, vs, h1, e _ _ h2, Reps.mono e h3⟩
  | .rol ds, v, h => by
    simp only [Rep] at h ⊢
    obtain ⟨a, vs, h1, h2, h3⟩ := h
    exact ⟨a, vs, h1, e.sql h2, Reps.mono e h3⟩
  | .dk ks ds, v, h => by
    simp only [Rep] at h ⊢
    obtain ⟨a, vs, h1, h2, h4, h3⟩ := h
    exact ⟨a, vs, h1, e.rd h2, h4, Reps.mono e h3⟩
  | .ins c fs ds, v, h => by
    simp only [Rep] at h ⊢
    obtain ⟨a, C, dx, fvs, h1, h2, h4, h5, h3⟩ := h
    exact ⟨a, C, dx, fvs, h1, h2, e _ _ h4, h5, Reps.mono e h3⟩
  | .exn fs ds, v, h => by
    simp only [Rep] at h ⊢
    obtain ⟨h1, h | ⟨dd, fvs, h2, hne, h3, h4, h5⟩⟩ := h
    · exact ⟨h1, .inl h⟩
    · exact ⟨h1, .inr ⟨dd, fvs, h2, hne, e _ _ h3, h4, Reps.mono e h5⟩⟩
theorem Reps.mono (e : Le F F') : ∀ {ds : List D} {vs : List V}, Reps G F ds vs → Reps G F' ds vs
  | [], vs, h => by simpa only [Reps] using h
  | d :: ds, vs, h => by
    simp only [Reps] at h ⊢
    obtain ⟨v, r, h1, h2, h3⟩ := h
    exact ⟨v, r, h1, Rep.mono e h2, Reps.mono e h3⟩
end
theorem Reps.len : ∀ {ds : List D} {vs : List V}, Reps G F ds vs → vs.length = ds.length
  | [], vs, h => by simp only [Reps] at h; subst h; rfl
  | d :: ds, vs, h => by
    simp only [Reps] at h
    obtain ⟨v, r, rfl, _, h3⟩ := h
    simp [Reps.len h3]
theorem Reps.get : ∀ {ds : List D} {vs : List V} {i : Nat} {d : D}, Reps G F ds vs → ds[i]? = some d → ∃ v, vs[i]? = some v ∧ Rep G F d v
  | [], _, _, _, _, e => by simp at e
  | x :: ds, vs, 0, d, h, e => by
    simp only [Reps] at h
    obtain ⟨v, r, rfl, h2, _⟩ := h
    simp at e; subst e
    exact ⟨v, rfl, h2⟩
  | x :: ds, vs, i + 1, d, h, e => by
    simp only [Reps] at h
    obtain ⟨v, r, rfl, _, h3⟩ := h
    obtain ⟨v', e1, e2⟩ := Reps.get (i := i) h3 (by simpa using e)
    exact ⟨v', by simpa using e1, e2⟩
theorem Reps.append : ∀ {ds es : List D} {vs ws : List V}, Reps G F ds vs → Reps G F es ws → Reps G F (ds ++ es) (vs ++ ws)
  | [], es, vs, ws, h, k => by simp only [Reps] at h; subst h; exact k
  | d :: ds, es, vs, ws, h, k => by
    simp only [Reps] at h
    obtain ⟨v, r, rfl, h2, h3⟩ := h
    show Reps G F (d :: (ds ++ es)) _
    simp only [Reps]
    exact ⟨v, r ++ ws, rfl, h2, Reps.append h3 k⟩
theorem Reps.take : ∀ {ds : List D} {vs : List V} (n : Nat), Reps G F ds vs → Reps G F (ds.take n) (vs.take n)
  | _, _, 0, _ => by simp [Reps]
  | [], vs, n + 1, h => by simp only [Reps] at h; subst h; simp [Reps]
  | d :: ds, vs, n + 1, h => by
    simp only [Reps] at h
    obtain ⟨v, r, rfl, h2, h3⟩ := h
    simp only [List.take_succ_cons, Reps]
    exact ⟨v, r.take n, rfl, h2, Reps.take n h3⟩
theorem Reps.drop : ∀ {ds : List D} {vs : List V} (n : Nat), Reps G F ds vs → Reps G F (ds.drop n) (vs.drop n)
  | _, _, 0, h => h
  | [], vs, n + 1, h => by simp only [Reps] at h; subst h; simp [Reps]
  | d :: ds, vs, n + 1, h => by
    simp only [Reps] at h
    obtain ⟨v, r, rfl, h2, h3⟩ := h
    simp only [List.drop_succ_cons]
    exact Reps.drop n h3
theorem Reps.one {d : D} {v : V} (h : Rep G F d v) : Reps G F [d] [v] := by
  simp only [Reps]; exact ⟨v, [], rfl, h, rfl⟩
theorem Reps.cons {d : D} {ds : List D} {v : V} {vs : List V} (h : Rep G F d v) (r : Reps G F ds vs) : Reps G F (d :: ds) (v :: vs) := by
  simp only [Reps]; exact ⟨v, vs, rfl, h, r⟩
theorem Reps.nil : Reps G F [] [] := by simp [Reps]
theorem Reps.map {α : Type} {f : α → D} {g : α → V} : ∀ {xs : List α}, (∀ x ∈ xs, Rep G F (f x) (g x)) → Reps G F (xs.map f) (xs.map g)
  | [], _ => .nil
  | x :: xs, h => .cons (h x List.mem_cons_self) (Reps.map fun y hy => h y (List.mem_cons_of_mem _ hy))

/-! ### parts -/
theorem Cut.symm {A B C : AS} (h : Cut A B C) : Cut A C B := ⟨fun a => by rw [h.1 a]; exact or_comm, fun a c b => h.2 a b c⟩
theorem Cut.l {A B C : AS} (h : Cut A B C) {a : Addr} (b : B a) : A a := (h.1 a).2 (.inl b)
theorem Cut.r {A B C : AS} (h : Cut A B C) {a : Addr} (c : C a) : A a := (h.1 a).2 (.inr c)
theorem Cut.mk' (B C : AS) (h : ∀ a, B a → ¬ C a) : Cut (fun a => B a ∨ C a) B C := ⟨fun _ => Iff.rfl, h⟩
theorem Cut.nil_l {A B : AS} (h : ∀ a, ¬ B a) : Cut A B A := ⟨fun a => ⟨.inr, fun x => x.elim (fun z => (h a z).elim) id⟩, fun a b => (h a b).elim⟩
theorem Cut.nil_r {A B : AS} (h : ∀ a, ¬ B a) : Cut A A B := (Cut.nil_l h).symm
/-- (B C) D = B (C D) -/
theorem Cut.assoc {A X B C E : AS} (h : Cut A X E) (k : Cut X B C) : ∃ Y, Cut A B Y ∧ Cut Y C E := by
  refine ⟨fun a => C a ∨ E a, ⟨fun a => ?_, fun a b y => ?_⟩, ⟨fun a => Iff.rfl, fun a c e => h.2 a ((k.1 a).2 (.inr c)) e⟩⟩
  · rw [h.1 a, k.1 a]; exact or_assoc
  · rcases y with c | e
    · exact k.2 a b c
    · exact h.2 a ((k.1 a).2 (.inl b)) e
theorem Cut.assoc' {A X B C E : AS} (h : Cut A B X) (k : Cut X C E) : ∃ Y, Cut A Y E ∧ Cut Y B C := by
  obtain ⟨Y, h1, h2⟩ := h.symm.assoc k.symm
  exact ⟨Y, h1.symm, h2.symm⟩
theorem Cut.sub {A B C : AS} (h : Cut A B C) : ∀ a, B a → A a := fun _ b => h.l b
mutual
/-- what is owned stays, as long as its own objects stay -/
theorem OT.mono (e : Le F F') : ∀ {od : OD} {v : V} {A : AS}, OT G F H od v A → (∀ a, A a → H' a = H a) → OT G F' H' od v A
  | .v d, v, A, h, k => by
    simp only [OT] at h ⊢
    exact ⟨h.1.mono e, h.2⟩
  | .l xs, v, A, h, k => by
    simp only [OT] at h ⊢
    obtain ⟨a, vs, A', h1, h2, h3, c⟩ := h
    exact ⟨a, vs, A', h1, (k a (c.l rfl)).trans h2, OTs.mono e h3 (fun b hb => k b (c.r hb)), c⟩
  | .k ks xs, v, A, h, k => by
    simp only [OT] at h ⊢
    obtain ⟨a, kvs, A', h1, h2, hk, h3, c⟩ := h
    exact ⟨a, kvs, A', h1, (k a (c.l rfl)).trans h2, hk, OTs.mono e h3 (fun b hb => k b (c.r hb)), c⟩
  | .o cn fs xs, v, A, h, k => by
    simp only [OT] at h ⊢
    obtain ⟨a, C, dx, fvs, A', h1, hm, h2, hk, h3, c⟩ := h
    exact ⟨a, C, dx, fvs, A', h1, hm, (k a (c.l rfl)).trans h2, hk, OTs.mono e h3 (fun b hb => k b (c.r hb)), c⟩
theorem OTs.mono (e : Le F F') : ∀ {xs : List OD} {vs : List V} {A : AS}, OTs G F H xs vs A → (∀ a, A a → H' a = H a) → OTs G F' H' xs vs A
  | [], vs, A, h, k => by simpa only [OTs] using h
  | x :: xs, vs, A, h, k => by
    simp only [OTs] at h ⊢
    obtain ⟨v, r, A1, A2, h1, h2, h3, c⟩ := h
    exact ⟨v, r, A1, A2, h1, OT.mono e h2 (fun a ha => k a (c.l ha)), OTs.mono e h3 (fun a ha => k a (c.r ha)), c⟩
end
mutual
theorem OT.there : ∀ {od : OD} {v : V} {A : AS}, OT G F H od v A → ∀ a, A a → ∃ o, H a = some o
  | .v d, v, A, h, a, ha => by
    simp only [OT] at h
    exact (h.2 a ha).elim
  | .l xs, v, A, h, a, ha => by
    simp only [OT] at h
    obtain ⟨b, vs, A', h1, h2, h3, c⟩ := h
    rcases (c.1 a).1 ha with rfl | z
    · exact ⟨_, h2⟩
    · exact OTs.there h3 a z
  | .k ks xs, v, A, h, a, ha => by
    simp only [OT] at h
    obtain ⟨b, vs, A', h1, h2, hk, h3, c⟩ := h
    rcases (c.1 a).1 ha with rfl | z
    · exact ⟨_, h2⟩
    · exact OTs.there h3 a z
  | .o cn fs xs, v, A, h, a, ha => by
    simp only [OT] at h
    obtain ⟨b, C, dx, fvs, A', h1, hm, h2, hk, h3, c⟩ := h
    rcases (c.1 a).1 ha with rfl | z
    · exact ⟨_, h2⟩
    · exact OTs.there h3 a z
theorem OTs.there : ∀ {xs : List OD} {vs : List V} {A : AS}, OTs G F H xs vs A → ∀ a, A a → ∃ o, H a = some o
  | [], vs, A, h, a, ha => by
    simp only [OTs] at h
    exact (h.2 a ha).elim
  | x :: xs, vs, A, h, a, ha => by
    simp only [OTs] at h
    obtain ⟨v, r, A1, A2, h1, h2, h3, c⟩ := h
    rcases (c.1 a).1 ha with z | z
    · exact OT.there h2 a z
    · exact OTs.there h3 a z
end
/-! ### freezing: all of it becomes data -/
mutual
def OD.fz : OD → D
  | .v d => d
  | .l xs => .lst (OD.fzs xs)
  | .k ks xs => .dk ks (OD.fzs xs)
  | .o c fs xs => .ins c fs (OD.fzs xs)
def OD.fzs : List OD → List D
  | [] => []
  | x :: xs => x.fz :: OD.fzs xs
end
theorem OD.fzs_map : ∀ xs : List OD, OD.fzs xs = xs.map OD.fz
  | [] => by simp [OD.fzs]
  | x :: xs => by simp [OD.fzs, OD.fzs_map xs]
mutual
theorem OT.rep (e : Le F F') : ∀ {od : OD} {v : V} {A : AS}, OT G F H od v A → (∀ a, A a → F' a = H a) → Rep G F' od.fz v
  | .v d, v, A, h, k => by
    simp only [OT, OD.fz] at h ⊢
    exact h.1.mono e
  | .l xs, v, A, h, k => by
    simp only [OT, OD.fz, Rep] at h ⊢
    obtain ⟨a, vs, A', h1, h2, h3, c⟩ := h
    exact ⟨a, vs, h1, (k a (c.l rfl)).trans h2, OTs.rep e h3 (fun b hb => k b (c.r hb))⟩
  | .k ks xs, v, A, h, k => by
    simp only [OT, OD.fz, Rep] at h ⊢
    obtain ⟨a, kvs, A', h1, h2, hk, h3, c⟩ := h
    exact ⟨a, kvs, h1, .of ((k a (c.l rfl)).trans h2), hk, OTs.rep e h3 (fun b hb => k b (c.r hb))⟩
  | .o cn fs xs, v, A, h, k => by
    simp only [OT, OD.fz, Rep] at h ⊢
    obtain ⟨a, C, dx, fvs, A', h1, hm, h2, hk, h3, c⟩ := h
    exact ⟨a, C, dx, fvs, h1, hm, (k a (c.l rfl)).trans h2, hk, OTs.rep e h3 (fun b hb => k b (c.r hb))⟩
theorem OTs.rep (e : Le F F') : ∀ {xs : List OD} {vs : List V} {A : AS}, OTs G F H xs vs A → (∀ a, A a → F' a = H a) → Reps G F' (OD.fzs xs) vs
  | [], vs, A, h, k => by
    simp only [OTs, OD.fzs, Reps] at h ⊢
    exact h.1
  | x :: xs, vs, A, h, k => by
    simp only [OTs, OD.fzs, Reps] at h ⊢
    obtain ⟨v, r, A1, A2, h1, h2, h3, c⟩ := h
    exact ⟨v, r, h1, OT.rep e h2 (fun a ha => k a (c.l ha)), OTs.rep e h3 (fun a ha => k a (c.r ha))⟩
end
end
end Vs

/-! VsB: states, steps, the readings of expressions. -/
namespace Vs
open PySem L2
section
variable {G : Gx} {F F' F1 F2 F3 H H' H1 H2 H3 : Hp} {A A' A1 A2 A3 : AS} {ρ ρ' κ : Env} {σ ς : St}

theorem Sl.len : ∀ {ρ : Env} {σ : St} {A : AS}, Sl G F H ρ σ A → σ.length = ρ.length
  | [], σ, A, h => by simp only [Sl] at h; rw [h.1]; rfl
  | none :: ρ, σ, A, h => by
    simp only [Sl] at h
    obtain ⟨x, r, rfl, h⟩ := h
    simp [Sl.len h]
  | some od :: ρ, σ, A, h => by
    simp only [Sl] at h
    obtain ⟨v, r, A1, A2, rfl, _, h, _⟩ := h
    simp [Sl.len h]
theorem Sl.mono (e : Le F F') : ∀ {ρ : Env} {σ : St} {A : AS}, Sl G F H ρ σ A → (∀ a, A a → H' a = H a) → Sl G F' H' ρ σ A
  | [], σ, A, h, k => by simpa only [Sl] using h
  | none :: ρ, σ, A, h, k => by
    simp only [Sl] at h ⊢
    obtain ⟨x, r, h1, h⟩ := h
    exact ⟨x, r, h1, Sl.mono e h k⟩
  | some od :: ρ, σ, A, h, k => by
    simp only [Sl] at h ⊢
    obtain ⟨v, r, A1, A2, h1, h2, h3, c⟩ := h
    exact ⟨v, r, A1, A2, h1, h2.mono e (fun a ha => k a (c.l ha)), Sl.mono e h3 (fun a ha => k a (c.r ha)), c⟩
theorem Sl.there : ∀ {ρ : Env} {σ : St} {A : AS}, Sl G F H ρ σ A → ∀ a, A a → ∃ o, H a = some o
  | [], σ, A, h, a, ha => by simp only [Sl] at h; exact (h.2 a ha).elim
  | none :: ρ, σ, A, h, a, ha => by
    simp only [Sl] at h
    obtain ⟨x, r, h1, h⟩ := h
    exact Sl.there h a ha
  | some od :: ρ, σ, A, h, a, ha => by
    simp only [Sl] at h
    obtain ⟨v, r, A1, A2, h1, h2, h3, c⟩ := h
    rcases (c.1 a).1 ha with z | z
    · exact h2.there a z
    · exact Sl.there h3 a z
theorem Sl.app : ∀ {κ ρ : Env} {ς σ : St} {A : AS}, ς.length = κ.length → Sl G F H (κ ++ ρ) (ς ++ σ) A → ∃ A1 A2, Sl G F H κ ς A1 ∧ Sl G F H ρ σ A2 ∧ Cut A A1 A2
  | [], ρ, ς, σ, A, hl, h => by
    cases ς with
    | nil => exact ⟨fun _ => False, A, by simp [Sl], h, .nil_l fun _ z => z⟩
    | cons => simp at hl
  | none :: κ, ρ, ς, σ, A, hl, h => by
    cases ς with
    | nil => simp at hl
    | cons s ς =>
      simp only [List.cons_append, Sl] at h
      obtain ⟨x, r, e, h⟩ := h
      injection e with e1 e2
      subst e1 e2
      obtain ⟨A1, A2, h1, h2, c⟩ := Sl.app (by simpa using hl) h
      exact ⟨A1, A2, by simp only [Sl]; exact ⟨_, _, rfl, h1⟩, h2, c⟩
  | some od :: κ, ρ, ς, σ, A, hl, h => by
    cases ς with
    | nil => simp at hl
    | cons s ς =>
      simp only [List.cons_append, Sl] at h
      obtain ⟨v, r, B1, B2, e, hv, h, c⟩ := h
      injection e with e1 e2
      subst e1 e2
      obtain ⟨A1, A2, h1, h2, c2⟩ := Sl.app (by simpa using hl) h
      obtain ⟨Y, c3, c4⟩ := c.assoc' c2
      exact ⟨Y, A2, by simp only [Sl]; exact ⟨_, _, _, _, rfl, hv, h1, c4⟩, h2, c3⟩
theorem Sl.join : ∀ {κ ρ : Env} {ς σ : St} {A A1 A2 : AS}, Sl G F H κ ς A1 → Sl G F H ρ σ A2 → Cut A A1 A2 → Sl G F H (κ ++ ρ) (ς ++ σ) A
  | [], ρ, ς, σ, A, A1, A2, h1, h2, c => by
    simp only [Sl] at h1
    obtain ⟨rfl, hn⟩ := h1
    have : A = A2 := by
      funext a
      exact propext ⟨fun z => ((c.1 a).1 z).elim (fun y => (hn a y).elim) id, c.r⟩
    subst this
    exact h2
  | none :: κ, ρ, ς, σ, A, A1, A2, h1, h2, c => by
    simp only [Sl, List.cons_append] at h1 ⊢
    obtain ⟨x, r, rfl, h⟩ := h1
    exact ⟨x, r ++ σ, rfl, Sl.join h h2 c⟩
  | some od :: κ, ρ, ς, σ, A, A1, A2, h1, h2, c => by
    simp only [Sl, List.cons_append] at h1 ⊢
    obtain ⟨v, r, B1, B2, rfl, hv, h, c1⟩ := h1
    obtain ⟨Y, c3, c4⟩ := c.assoc c1
    exact ⟨v, r ++ σ, B1, Y, rfl, hv, Sl.join h h2 c4, c3⟩
/-- a slot apart from the others -/
theorem Sl.at : ∀ {ρ : Env} {σ : St} {A : AS} {i : Nat} {od : OD}, Sl G F H ρ σ A → ρ[i]? = some (some od) → ∃ v A1 A2, σ[i]? = some (some v) ∧ OT G F H od v A1 ∧ Sl G F H (ρ.set i none) σ A2 ∧ Cut A A1 A2
  | [], σ, A, i, od, h, e => by simp at e
  | none :: ρ, σ, A, 0, od, h, e => by simp at e
  | some x :: ρ, σ, A, 0, od, h, e => by
    simp only [Sl] at h
    obtain ⟨v, r, A1, A2, rfl, h1, h2, c⟩ := h
    simp at e; subst e
    exact ⟨v, A1, A2, rfl, h1, by simp only [List.set_cons_zero, Sl]; exact ⟨_, _, rfl, h2⟩, c⟩
  | none :: ρ, σ, A, i + 1, od, h, e => by
    simp only [Sl] at h
    obtain ⟨x, r, rfl, h⟩ := h
    obtain ⟨v, A1, A2, e1, h1, h2, c⟩ := Sl.at (i := i) h (by simpa using e)
    exact ⟨v, A1, A2, by simpa using e1, h1, by simp only [List.set_cons_succ, Sl]; exact ⟨_, _, rfl, h2⟩, c⟩
  | some y :: ρ, σ, A, i + 1, od, h, e => by
    simp only [Sl] at h
    obtain ⟨x, r, B1, B2, rfl, hx, h, c0⟩ := h
    obtain ⟨v, A1, A2, e1, h1, h2, c⟩ := Sl.at (i := i) h (by simpa using e)
    obtain ⟨Y, c3, c4⟩ := c0.symm.assoc c
    exact ⟨v, A1, Y, by simpa using e1, h1, by simp only [List.set_cons_succ, Sl]; exact ⟨_, _, _, _, rfl, hx, h2, c4.symm⟩, c3⟩
/-- a slot that is filled -/
theorem Sl.put : ∀ {ρ : Env} {σ : St} {A A1 A2 : AS} {i : Nat} {v : V} {od : OD}, Sl G F H ρ σ A2 → ρ[i]? = some none → σ[i]? = some (some v) → OT G F H od v A1 → Cut A A1 A2 → Sl G F H (ρ.set i (some od)) σ A
  | [], σ, A, A1, A2, i, v, od, h, e, _, _, _ => by simp at e
  | some x :: ρ, σ, A, A1, A2, 0, v, od, h, e, _, _, _ => by simp at e
  | none :: ρ, σ, A, A1, A2, 0, v, od, h, e, es, ho, c => by
    simp only [Sl] at h
    obtain ⟨x, r, rfl, h⟩ := h
    simp at es; subst es
    simp only [List.set_cons_zero, Sl]
    exact ⟨_, _, _, _, rfl, ho, h, c⟩
  | none :: ρ, σ, A, A1, A2, i + 1, v, od, h, e, es, ho, c => by
    simp only [Sl] at h
    obtain ⟨x, r, rfl, h⟩ := h
    simp only [List.set_cons_succ, Sl]
    exact ⟨_, _, rfl, Sl.put h (by simpa using e) (by simpa using es) ho c⟩
  | some y :: ρ, σ, A, A1, A2, i + 1, v, od, h, e, es, ho, c => by
    simp only [Sl] at h
    obtain ⟨x, r, B1, B2, rfl, hx, h, c0⟩ := h
    simp only [List.set_cons_succ, Sl]
    obtain ⟨Y, c3, c4⟩ := c.symm.assoc c0
    exact ⟨_, _, _, _, rfl, hx, Sl.put h (by simpa using e) (by simpa using es) ho c4.symm, c3⟩
/-- a value in σ that nothing is said of -/
theorem Sl.free : ∀ {ρ : Env} {σ : St} {A : AS} {i : Nat} {x : Option V}, Sl G F H ρ σ A → ρ[i]? = some none → Sl G F H ρ (σ.set i x) A
  | [], σ, A, i, x, h, e => by simp at e
  | some y :: ρ, σ, A, 0, x, h, e => by simp at e
  | none :: ρ, σ, A, 0, x, h, e => by
    simp only [Sl] at h ⊢
    obtain ⟨y, r, rfl, h⟩ := h
    exact ⟨_, _, rfl, h⟩
  | none :: ρ, σ, A, i + 1, x, h, e => by
    simp only [Sl] at h ⊢
    obtain ⟨y, r, rfl, h⟩ := h
    exact ⟨_, _, rfl, Sl.free h (by simpa using e)⟩
  | some z :: ρ, σ, A, i + 1, x, h, e => by
    simp only [Sl] at h ⊢
    obtain ⟨y, r, B1, B2, rfl, hx, h, c⟩ := h
    exact ⟨_, _, _, _, rfl, hx, Sl.free h (by simpa using e), c⟩
/-- a slot forgotten -/
theorem Sl.drop {i : Nat} (h : Sl G F H ρ σ A) : ∃ A', Sl G F H (ρ.set i none) σ A' ∧ ∀ a, A' a → A a := by
  cases e : ρ[i]? with
  | none =>
    refine ⟨A, ?_, fun _ h => h⟩
    rw [List.set_eq_of_length_le (by simpa using e)]
    exact h
  | some x =>
    cases x with
    | none =>
      refine ⟨A, ?_, fun _ h => h⟩
      have : ρ.set i none = ρ := by
        apply List.ext_getElem?
        intro j
        by_cases hj : i = j
        · subst hj
          rw [List.getElem?_set_self (by have := (List.getElem?_eq_some_iff.mp e).1; exact this)]
          exact e.symm
        · rw [List.getElem?_set_ne hj]
      rw [this]
      exact h
    | some od =>
      obtain ⟨v, A1, A2, _, _, h2, c⟩ := h.at e
      exact ⟨A2, h2, fun a ha => c.r ha⟩

structure Stt (G : Gx) (F H : Hp) (ρ : Env) (σ : St) (A : AS) : Prop where
  le : Le F H
  sl : Sl G F H ρ σ A
  fr : ∀ a, A a → F a = none
/-- a step: p tells that no tracked object changed -/
structure Go (p : Bool) (F H : Hp) (A : AS) (F' H' : Hp) (A' : AS) : Prop where
  le : Le F F'
  keep : ∀ a o, H a = some o → ¬ (p = false ∧ A a) → H' a = some o
  sub : ∀ a, A' a → A a ∨ H a = none
  nf : ∀ a o, F' a = some o → F a = some o ∨ A a ∨ H a = none
theorem Go.refl {p : Bool} : Go p F H A F H A := ⟨.refl _, fun _ _ h _ => h, fun _ h => .inl h, fun _ _ h => .inl h⟩
theorem Go.less {p : Bool} (g : Go p F H A F' H' A1) (h : ∀ a, A2 a → A1 a) : Go p F H A F' H' A2 := ⟨g.le, g.keep, fun a ha => g.sub a (h a ha), g.nf⟩
theorem Go.imp {p q : Bool} (g : Go p F H A F' H' A') (h : q = true → p = true) : Go q F H A F' H' A' :=
  ⟨g.le, fun a o e n => g.keep a o e fun z => n ⟨by cases q with
    | true => rw [h rfl] at z; exact z.1
    | false => rfl, z.2⟩, g.sub, g.nf⟩
theorem Go.back {p : Bool} (g : Go p F H A F' H' A') {a : Addr} (h : A' a ∨ H' a = none) : A a ∨ H a = none := by
  rcases h with h | h
  · exact g.sub a h
  · cases e : H a with
    | none => exact .inr rfl
    | some o =>
      by_cases hA : A a
      · exact .inl hA
      · have := g.keep a o e fun z => hA z.2
        rw [this] at h; cases h
theorem Go.trans {p q : Bool} (g : Go p F H A F1 H1 A1) (g2 : Go q F1 H1 A1 F2 H2 A2) : Go (p && q) F H A F2 H2 A2 where
  le := g.le.trans g2.le
  keep := fun a o e n => by
    have e1 : H1 a = some o := g.keep a o e fun z => n ⟨by rw [z.1]; rfl, z.2⟩
    refine g2.keep a o e1 fun z => n ⟨by rw [z.1]; simp, ?_⟩
    rcases g.sub a z.2 with h | h
    · exact h
    · rw [h] at e; cases e
  sub := fun a ha => g.back (g2.sub a ha)
  nf := fun a o e => (g2.nf a o e).elim (g.nf a o) fun h => .inr (g.back h)
/-- nothing tracked changed, new things came -/
structure New (F H F' H' : Hp) : Prop where
  lf : Le F F'
  lh : Le H H'
  le : Le F' H'
  nw : ∀ a o, F' a = some o → F a = some o ∨ H a = none
theorem New.refl (h : Le F H) : New F H F H := ⟨.refl _, .refl _, h, fun _ _ e => .inl e⟩
theorem New.trans (a : New F H F1 H1) (b : New F1 H1 F2 H2) : New F H F2 H2 := ⟨a.lf.trans b.lf, a.lh.trans b.lh, b.le, fun x o e => by
  rcases b.nw x o e with h | h
  · exact a.nw x o h
  · right
    cases q : H x with
    | none => rfl
    | some u => rw [a.lh x u q] at h; cases h⟩
/-- a new object, frozen -/
theorem New.frz {p : Addr} {o : HO} (h : Le F H) (hp : H p = none) : New F H (upd F p o) (upd H p o) := by
  have hF : F p = none := by
    cases q : F p with
    | none => rfl
    | some u => rw [h p u q] at hp; cases hp
  refine ⟨.new hF, .new hp, fun a u e => ?_, fun a u e => ?_⟩
  · by_cases ha : a = p
    · subst ha; rw [upd_same] at e ⊢; exact e
    · rw [upd_ne ha] at e ⊢; exact h a u e
  · by_cases ha : a = p
    · subst ha; exact .inr hp
    · rw [upd_ne ha] at e; exact .inl e
theorem New.own {p : Addr} {o : HO} (h : Le F H) (hp : H p = none) : New F H F (upd H p o) := ⟨.refl _, .new hp, h.trans (.new hp), fun _ _ e => .inl e⟩
theorem Stt.new (S : Stt G F H ρ σ A) (n : New F H F' H') : Stt G F' H' ρ σ A where
  le := n.le
  sl := S.sl.mono n.lf fun a ha => by
    obtain ⟨o, e⟩ := S.sl.there a ha
    rw [e]; exact n.lh a o e
  fr := fun a ha => by
    cases q : F' a with
    | none => rfl
    | some o =>
      rcases n.nw a o q with h | h
      · rw [S.fr a ha] at h; cases h
      · obtain ⟨o', e⟩ := S.sl.there a ha
        rw [e] at h; cases h
theorem New.go {p : Bool} (n : New F H F' H') : Go p F H A F' H' A := ⟨n.lf, fun a o e _ => n.lh a o e, fun _ h => .inl h, fun a o e => (n.nw a o e).elim .inl fun h => .inr (.inr h)⟩
/-- a new value on the stack -/
theorem Stt.push {od : OD} {v : V} {B : AS} (S : Stt G F H ρ σ A) (h : OT G F H od v B) (hB : ∀ a, B a → F a = none ∧ ¬ A a) : ∃ A', Stt G F H (some od :: ρ) (some v :: σ) A' ∧ ∀ a, A' a ↔ B a ∨ A a :=
  ⟨fun a => B a ∨ A a, ⟨S.le, by simp only [Sl]; exact ⟨_, _, _, _, rfl, h, S.sl, .mk' _ _ fun a b => (hB a b).2⟩, fun a ha => ha.elim (fun b => (hB a b).1) (S.fr a)⟩, fun _ => Iff.rfl⟩
theorem Stt.push_v {d : D} {v : V} (S : Stt G F H ρ σ A) (h : Rep G F d v) : Stt G F H (some (.v d) :: ρ) (some v :: σ) A :=
  ⟨S.le, by simp only [Sl, OT]; exact ⟨_, _, fun _ => False, A, rfl, ⟨h, fun _ z => z⟩, S.sl, .nil_l fun _ z => z⟩, S.fr⟩
theorem Stt.pop {od : OD} {v : V} (S : Stt G F H (some od :: ρ) (some v :: σ) A) : ∃ B A', OT G F H od v B ∧ Stt G F H ρ σ A' ∧ Cut A B A' ∧ (∀ a, B a → F a = none) := by
  obtain ⟨le, sl, fr⟩ := S
  simp only [Sl] at sl
  obtain ⟨w, r, B, A', e, h1, h2, c⟩ := sl
  injection e with e1 e2
  injection e1 with e1
  subst e1 e2
  exact ⟨B, A', h1, ⟨le, h2, fun a ha => fr a (c.r ha)⟩, c, fun a ha => fr a (c.l ha)⟩
theorem Stt.pop_v {d : D} {v : V} (S : Stt G F H (some (.v d) :: ρ) (some v :: σ) A) : Rep G F d v ∧ Stt G F H ρ σ A := by
  obtain ⟨B, A', h1, h2, c, _⟩ := S.pop
  simp only [OT] at h1
  have : A' = A := by
    funext a
    exact propext ⟨c.r, fun z => ((c.1 a).1 z).elim (fun b => (h1.2 a b).elim) id⟩
  subst this
  exact ⟨h1.1, h2⟩
theorem Stt.pop_n {x : Option V} (S : Stt G F H (none :: ρ) (x :: σ) A) : Stt G F H ρ σ A := by
  obtain ⟨le, sl, fr⟩ := S
  simp only [Sl] at sl
  obtain ⟨w, r, e, h⟩ := sl
  injection e with e1 e2
  subst e1 e2
  exact ⟨le, h, fr⟩
theorem Stt.push_n {x : Option V} (S : Stt G F H ρ σ A) : Stt G F H (none :: ρ) (x :: σ) A :=
  ⟨S.le, by simp only [Sl]; exact ⟨_, _, rfl, S.sl⟩, S.fr⟩
/-- what is owned at B becomes data -/
noncomputable def fzH (F H : Hp) (B : AS) : Hp := by
  classical exact fun a => if B a then H a else F a
theorem fzH_in {B : AS} {a : Addr} (h : B a) : fzH F H B a = H a := by unfold fzH; rw [if_pos h]
theorem fzH_out {B : AS} {a : Addr} (h : ¬ B a) : fzH F H B a = F a := by unfold fzH; rw [if_neg h]
theorem fzH_le {B : AS} (hB : ∀ a, B a → F a = none) : Le F (fzH F H B) := fun a o e => by
  by_cases h : B a
  · rw [hB a h] at e; cases e
  · rw [fzH_out h]; exact e
theorem fzH_leH {B : AS} (l : Le F H) : Le (fzH F H B) H := fun a o e => by
  by_cases h : B a
  · rw [fzH_in h] at e; exact e
  · rw [fzH_out h] at e; exact l a o e
theorem Stt.frz {od : OD} {v : V} {p : Bool} (S : Stt G F H (some od :: ρ) (some v :: σ) A) : ∃ F' A', Rep G F' od.fz v ∧ Stt G F' H ρ σ A' ∧ Go p F H A F' H A' ∧ Le F F' := by
  obtain ⟨B, A', h1, h2, c, hB⟩ := S.pop
  have l := fzH_le (H := H) hB
  refine ⟨fzH F H B, A', h1.rep l fun a ha => fzH_in ha, ⟨fzH_leH S.le, h2.sl.mono l fun _ _ => rfl, fun a ha => ?_⟩, ⟨l, fun _ _ e _ => e, fun a ha => .inl (c.r ha), fun a o e => by
    by_cases hb : B a
    · exact .inr (.inl (c.l hb))
    · rw [fzH_out hb] at e; exact .inl e⟩, l⟩
  rw [fzH_out fun b => c.2 a b ha]
  exact h2.fr a ha
end
/-! ### the functions that the readings follow -/
structure XV where
  cls : Str
  fs : List Str
  vs : List D
inductive Out (α : Type) where
  | ok (a : α) (ρ : Env)
  | exc (x : XV) (ρ : Env)
  | stuck
abbrev M (α : Type) := Env → Out α
def Out.bind {α β : Type} (o : Out α) (k : α → M β) : Out β := match o with
  | .ok a ρ => k a ρ
  | .exc x ρ => .exc x ρ
  | .stuck => .stuck
@[simp] theorem Out.bind_ok {α β : Type} (a : α) (ρ : Env) (k : α → M β) : (Out.ok a ρ).bind k = k a ρ := rfl
@[simp] theorem Out.bind_exc {α β : Type} (x : XV) (ρ : Env) (k : α → M β) : (Out.exc x ρ).bind k = .exc x ρ := rfl
@[simp] theorem Out.bind_stuck {α β : Type} (k : α → M β) : (Out.stuck).bind k = .stuck := rfl
/-- an exception as it is met -/
def XRep (G : Gx) (F H : Hp) (x : XV) (cls : Value) (d : Option Addr) : Prop :=
  ∃ C, G.mg x.cls = some (.ref C) ∧ cls = .ref C ∧ ((d = none ∧ x.fs = [] ∧ x.vs = []) ∨ ∃ dd fvs, d = some dd ∧ x.fs ≠ [] ∧ F dd = some (.xd fvs) ∧ fvs.map (·.1) = x.fs ∧ Reps G F x.vs (fvs.map (·.2)))
/-- what is shown behind: α's content by Psh, pushed on the stack -/
def Pst {α : Type} (G : Gx) (W : WX) (p : Bool) (o : Out α) (F H : Hp) (A : AS) (κ : Env) (ς σ : St) (K : α → Env → Prop) : Prop := match o with
  | .ok a ρ' => K a ρ'
  | .exc x ρ' => ∀ F' H' A' cls d, Go false F H A F' H' A' → Stt G F' H' (κ ++ ρ') (ς ++ σ) A' → XRep G F' H' x cls d → W cls d σ H'
  | .stuck => False
def TX (G : Gx) (W : WX) (p : Bool) (f : M OD) : TE := fun σ H Q => ∃ F ρ A κ ς, Stt G F H (κ ++ ρ) (ς ++ σ) A ∧ ς.length = κ.length ∧
  Pst G W p (f ρ) F H A κ ς σ fun od ρ' => ∀ F' H' v A', Go p F H A F' H' A' → Stt G F' H' (some od :: (κ ++ ρ')) (some v :: (ς ++ σ)) A' → Q v H'
theorem TX.mono {G : Gx} {W : WX} {p : Bool} {f : M OD} {σ : St} {H : Hp} {Q Q' : VK} (h : TX G W p f σ H Q) (k : ∀ v H, Q v H → Q' v H) : TX G W p f σ H Q' := by
  obtain ⟨F, ρ, A, κ, ς, S, hl, h⟩ := h
  refine ⟨F, ρ, A, κ, ς, S, hl, ?_⟩
  cases e : f ρ with
  | ok od ρ' => rw [e] at h; exact fun F' H' v A' g S' => k _ _ (h F' H' v A' g S')
  | exc x ρ' => rw [e] at h; exact h
  | stuck => rw [e] at h; exact h
abbrev SX (X : Cx) (G : Gx) (W : WX) (p : Bool) (e : Expr) (f : M OD) : Prop := PE X e (TX G W p f)
theorem PE.of {X : Cx} {e : Expr} {t t' : TE} (h : PE X e t) (k : ∀ σ H Q, t' σ H Q → t σ H Q) : PE X e t' := ⟨fun pins s σ H Q I q => h.run pins s σ H Q I (k σ H Q q)⟩
theorem PT.of {X : Cx} {e : Expr} {t t' : TT} (h : PT X e t) (k : ∀ σ H Q, t' σ H Q → t σ H Q) : PT X e t' := ⟨fun pins s σ H Q I q => h.run pins s σ H Q I (k σ H Q q)⟩
theorem PS.of {X : Cx} {e : Stmt} {t t' : TS} (h : PS X e t) (k : ∀ D σ H, t' D σ H → t D σ H) : PS X e t' := ⟨fun pins s σ H Q I q => h.run pins s σ H Q I (k Q σ H q)⟩
theorem PSs.of {X : Cx} {e : List Stmt} {t t' : TS} (h : PSs X e t) (k : ∀ D σ H, t' D σ H → t D σ H) : PSs X e t' := ⟨fun pins s σ H Q I q => h.run pins s σ H Q I (k Q σ H q)⟩

/-! ### operands -/
inductive Opd where
  | val (p : Bool) (f : M OD)
  | plc (i : Nat)
inductive DV where
  | own (od : OD)
  | plc (i : Nat)
def DV.slot : DV → Option OD
  | .own od => some od
  | .plc _ => none
def tOpd (G : Gx) (W : WX) : Opd → TE
  | .val p f => TX G W p f
  | .plc i => tVar i
abbrev SO (X : Cx) (G : Gx) (W : WX) (e : Expr) (a : Opd) : Prop := PE X e (tOpd G W a)
def Opd.p : Opd → Bool
  | .val p _ => p
  | .plc _ => true
def Opd.ev : Opd → M DV
  | .val _ f => fun ρ => (f ρ).bind fun od ρ' => .ok (.own od) ρ'
  | .plc i => fun ρ => .ok (.plc i) ρ
def pAll : List Opd → Bool
  | [] => true
  | a :: as => a.p && pAll as
def evAll : List Opd → M (List DV)
  | [] => fun ρ => .ok [] ρ
  | a :: as => fun ρ => (a.ev ρ).bind fun d ρ1 => (evAll as ρ1).bind fun ds ρ2 => .ok (d :: ds) ρ2
def tAll (G : Gx) (W : WX) : List Opd → TA
  | [] => tNil
  | a :: as => tCons (tOpd G W a) (tAll G W as)
/-- the values of operands: those of places stand in the slots -/
def Lnk (σ : St) : List DV → List V → Prop
  | [], vs => vs = []
  | .own _ :: ds, vs => ∃ v r, vs = v :: r ∧ Lnk σ ds r
  | .plc i :: ds, vs => ∃ v r, vs = v :: r ∧ σ[i]? = some (some v) ∧ Lnk σ ds r
section
variable {G : Gx} {W : WX} {F F' F1 F2 F3 H H' H1 H2 H3 : Hp} {A A' A1 A2 A3 : AS} {ρ ρ' κ : Env} {σ ς : St}
theorem Sl.swap {x : Option OD} {v : Option V} {ξ ρ : Env} {τ σ : St} (hl : τ.length = ξ.length) (h : Sl G F H (ξ ++ x :: ρ) (τ ++ v :: σ) A) : Sl G F H (x :: (ξ ++ ρ)) (v :: (τ ++ σ)) A := by
  obtain ⟨A1, A2, h1, h2, c⟩ := Sl.app hl h
  cases x with
  | none =>
    simp only [Sl] at h2 ⊢
    obtain ⟨y, r, e, h2⟩ := h2
    injection e with e1 e2
    subst e1 e2
    exact ⟨_, _, rfl, Sl.join h1 h2 c⟩
  | some od =>
    simp only [Sl] at h2 ⊢
    obtain ⟨y, r, B1, B2, e, hv, h2, c2⟩ := h2
    injection e with e1 e2
    subst e1 e2
    obtain ⟨Y, c3, c4⟩ := c.symm.assoc c2
    exact ⟨_, _, _, _, rfl, hv, Sl.join h1 h2 c4.symm, c3⟩
theorem Stt.swap {x : Option OD} {v : Option V} {ξ ρ : Env} {τ σ : St} (hl : τ.length = ξ.length) (h : Stt G F H (ξ ++ x :: ρ) (τ ++ v :: σ) A) : Stt G F H (x :: (ξ ++ ρ)) (v :: (τ ++ σ)) A := ⟨h.le, h.sl.swap hl, h.fr⟩
theorem Lnk.len {σ : St} : ∀ {ds : List DV} {vs : List V}, Lnk σ ds vs → vs.length = ds.length
  | [], vs, h => by simp only [Lnk] at h; subst h; rfl
  | .own _ :: ds, vs, h => by
    simp only [Lnk] at h
    obtain ⟨v, r, rfl, h⟩ := h
    simp [Lnk.len h]
  | .plc _ :: ds, vs, h => by
    simp only [Lnk] at h
    obtain ⟨v, r, rfl, _, h⟩ := h
    simp [Lnk.len h]
/-- one operand -/
theorem tOpd_run {a : Opd} {Q : VK} (S : Stt G F H (κ ++ ρ) (ς ++ σ) A) (hl : ς.length = κ.length) (hp : ∀ i, a = .plc i → ∃ v, σ[i]? = some (some v))
    (h : Pst G W a.p (a.ev ρ) F H A κ ς σ fun d ρ' => ∀ F' H' v A', Go a.p F H A F' H' A' → Stt G F' H' (d.slot :: (κ ++ ρ')) (some v :: (ς ++ σ)) A' → (∀ i, d = .plc i → σ[i]? = some (some v)) → Q v H') : tOpd G W a σ H Q := by
  cases a with
  | val p f =>
    refine ⟨F, ρ, A, κ, ς, S, hl, ?_⟩
    simp only [Opd.ev, Opd.p] at h
    cases e : f ρ with
    | ok od ρ' => rw [e] at h; exact fun F' H' v A' g S' => h F' H' v A' g S' fun i z => nomatch z
    | exc x ρ' => rw [e] at h; exact h
    | stuck => rw [e] at h; exact h
  | plc i =>
    obtain ⟨v, e⟩ := hp i rfl
    refine ⟨v, e, ?_⟩
    exact h F H v A .refl S.push_n fun j z => by injection z with z; subst z; exact e
def Opd.ok (σ : St) (a : Opd) : Prop := ∀ i, a = .plc i → ∃ v, σ[i]? = some (some v)
theorem tAll_run : ∀ {as : List Opd} {F H : Hp} {A : AS} {κ ρ : Env} {ς σ : St} {Q : List V → Hp → Prop}, Stt G F H (κ ++ ρ) (ς ++ σ) A → ς.length = κ.length → (∀ a ∈ as, a.ok σ) →
    Pst G W (pAll as) (evAll as ρ) F H A κ ς σ (fun ds ρ' => ∀ F' H' vs A', Go (pAll as) F H A F' H' A' → Stt G F' H' (ds.map DV.slot ++ (κ ++ ρ')) (vs.map some ++ (ς ++ σ)) A' → Lnk σ ds vs → Q vs H') → tAll G W as σ H Q
  | [], F, H, A, κ, ρ, ς, σ, Q, S, hl, ho, h => h F H [] A .refl S rfl
  | a :: as, F, H, A, κ, ρ, ς, σ, Q, S, hl, ho, h => by
    show tOpd G W a σ H fun x H1 => tAll G W as σ H1 fun xs H2 => Q (x :: xs) H2
    refine tOpd_run S hl (ho a List.mem_cons_self) ?_
    simp only [evAll] at h
    cases e : a.ev ρ with
    | stuck => rw [e] at h; exact h
    | exc x ρ' => rw [e] at h; exact h
    | ok d ρ1 =>
      rw [e] at h
      simp only [Out.bind_ok] at h
      intro F1 H1 v1 A1 g1 S1 l1
      refine tAll_run (κ := d.slot :: κ) (ς := some v1 :: ς) (ρ := ρ1) S1 (by simp [hl]) (fun b hb => ho b (List.mem_cons_of_mem _ hb)) ?_
      cases e2 : evAll as ρ1 with
      | stuck => rw [e2] at h; exact h
      | exc x ρ2 =>
        rw [e2] at h
        intro F' H' A' cls dd g S' xr
        have : ∃ A'', Stt G F' H' (κ ++ ρ2) (ς ++ σ) A'' ∧ ∀ a, A'' a → A' a := by
          cases hs : d.slot with
          | none =>
            rw [hs] at S'
            exact ⟨A', S'.pop_n, fun _ z => z⟩
          | some od =>
            rw [hs] at S'
            obtain ⟨B, A'', _, S'', c, _⟩ := S'.pop
            exact ⟨A'', S'', fun a z => c.r z⟩
        obtain ⟨A'', S'', sub⟩ := this
        exact h F' H' A'' cls dd (((g1.trans g).imp (fun z => by cases z)).less sub) S'' xr
      | ok ds ρ2 =>
        rw [e2] at h
        intro F2 H2 vs A2 g2 S2 l2
        refine h F2 H2 (v1 :: vs) A2 (g1.trans g2) ?_ ?_
        · have hl2 : (vs.map some).length = (ds.map DV.slot).length := by simp [l2.len]
          exact S2.swap hl2
        · cases d with
          | own od => exact ⟨_, _, rfl, l2⟩
          | plc i => exact ⟨_, _, rfl, l1 i rfl, l2⟩
end
end Vs

/-! VsC: operations on operands; tests. -/
namespace Vs
open PySem L2
section
variable (G : Gx)
/-- data whose own object may be one that is owned -/
def RepB (F H : Hp) : D → V → Prop
  | .lst ds, v => ∃ a vs, v = .ref a ∧ H a = some (.lst vs) ∧ Reps G F ds vs
  | .dk ks ds, v => ∃ a kvs, v = .ref a ∧ Rd H a (.dK kvs) ∧ kvs.map (·.1) = ks ∧ Reps G F ds (kvs.map (·.2))
  | .ins c fs ds, v => ∃ a C dx fvs, v = .ref a ∧ G.mg c = some (.ref C) ∧ H a = some (.ins C dx fvs) ∧ fvs.map (·.1) = fs ∧ Reps G F ds (fvs.map (·.2))
  | d, v => Rep G F d v
def RepBs (F H : Hp) : List D → List V → Prop
  | [], vs => vs = []
  | d :: ds, vs => ∃ v r, vs = v :: r ∧ RepB G F H d v ∧ RepBs F H ds r
end
def OD.sh1 : OD → Option D
  | .v d => some d
  | _ => none
def OD.shs : List OD → Option (List D)
  | [] => some []
  | x :: xs => x.sh1.bind fun d => (OD.shs xs).map fun ds => d :: ds
def OD.sh : OD → Option D
  | .v d => some d
  | .l xs => (OD.shs xs).map .lst
  | .k ks xs => (OD.shs xs).map (.dk ks)
  | .o c fs xs => (OD.shs xs).map (.ins c fs)
theorem shs_v : ∀ ds : List D, OD.shs (ds.map .v) = some ds
  | [] => rfl
  | d :: ds => by simp [OD.shs, OD.sh1, shs_v ds]
section
variable {G : Gx} {W : WX} {F F' F1 F2 F3 H H' H1 H2 H3 : Hp} {A A' A1 A2 A3 : AS} {ρ ρ' κ : Env} {σ ς : St}
theorem Rep.b (l : Le F H) {d : D} {v : V} (h : Rep G F d v) : RepB G F H d v := by
  cases d <;> simp only [RepB] <;> simp only [Rep] at h ⊢ <;> try exact h
  · obtain ⟨a, vs, h1, h2, h3⟩ := h
    exact ⟨a, vs, h1, l _ _ h2, h3⟩
  · obtain ⟨a, kvs, h1, h2, h3⟩ := h
    exact ⟨a, kvs, h1, l.rd h2, h3⟩
  · obtain ⟨a, C, dx, fvs, h1, h2, h3, h4⟩ := h
    exact ⟨a, C, dx, fvs, h1, h2, l _ _ h3, h4⟩
theorem RepB.mono (e : Le F F') {d : D} {v : V} (h : RepB G F H d v) : RepB G F' H d v := by
  cases d <;> simp only [RepB] at h ⊢ <;> try exact h.mono e
  · obtain ⟨a, vs, h1, h2, h3⟩ := h
    exact ⟨a, vs, h1, h2, h3.mono e⟩
  · obtain ⟨a, kvs, h1, h2, h3, h4⟩ := h
    exact ⟨a, kvs, h1, h2, h3, h4.mono e⟩
  · obtain ⟨a, C, dx, fvs, h1, h2, h3, h4, h5⟩ := h
    exact ⟨a, C, dx, fvs, h1, h2, h3, h4, h5.mono e⟩
theorem OTs.sh : ∀ {xs : List OD} {ds : List D} {vs : List V} {A : AS}, OTs G F H xs vs A → OD.shs xs = some ds → Reps G F ds vs
  | [], ds, vs, A, h, e => by
    simp only [OD.shs] at e; cases e
    simp only [OTs] at h; simp only [Reps]; exact h.1
  | x :: xs, ds, vs, A, h, e => by
    simp only [OD.shs] at e
    cases x with
    | v d =>
      simp only [OD.sh1, Option.bind_some] at e
      cases q : OD.shs xs with
      | none => rw [q] at e; cases e
      | some es =>
        rw [q] at e; cases e
        simp only [OTs, OT] at h
        obtain ⟨v, r, A1, A2, rfl, h1, h2, _⟩ := h
        exact .cons h1.1 (OTs.sh h2 q)
    | _ => simp [OD.sh1] at e
theorem OT.sh (l : Le F H) {od : OD} {d : D} {v : V} {A : AS} (h : OT G F H od v A) (e : od.sh = some d) : RepB G F H d v := by
  cases od with
  | v d' =>
    simp only [OD.sh] at e; cases e
    simp only [OT] at h
    exact h.1.b l
  | l xs =>
    simp only [OD.sh] at e
    cases q : OD.shs xs with
    | none => rw [q] at e; cases e
    | some es =>
      rw [q] at e; cases e
      simp only [OT] at h
      obtain ⟨a, vs, A', h1, h2, h3, c⟩ := h
      exact ⟨a, vs, h1, h2, h3.sh q⟩
  | k ks xs =>
    simp only [OD.sh] at e
    cases q : OD.shs xs with
    | none => rw [q] at e; cases e
    | some es =>
      rw [q] at e; cases e
      simp only [OT] at h
      obtain ⟨a, kvs, A', h1, h2, hk, h3, c⟩ := h
      exact ⟨a, kvs, h1, .of h2, hk, h3.sh q⟩
  | o cn fs xs =>
    simp only [OD.sh] at e
    cases q : OD.shs xs with
    | none => rw [q] at e; cases e
    | some es =>
      rw [q] at e; cases e
      simp only [OT] at h
      obtain ⟨a, C, dx, fvs, A', h1, hm, h2, hk, h3, c⟩ := h
      exact ⟨a, C, dx, fvs, h1, hm, h2, hk, h3.sh q⟩
end
def DV.get (ρ : Env) : DV → Option D
  | .own od => some od.fz
  | .plc i => (ρ[i]?.join).bind OD.sh
def res (ρ : Env) : List DV → Option (List D)
  | [] => some []
  | d :: ds => (d.get ρ).bind fun x => (res ρ ds).map fun xs => x :: xs
section
variable {G : Gx} {W : WX} {F F' F1 F2 F3 H H' H1 H2 H3 : Hp} {A A' A1 A2 A3 : AS} {ρ ρ' κ : Env} {σ ς : St}
theorem RepBs.mono (e : Le F F') : ∀ {ds : List D} {vs : List V}, RepBs G F H ds vs → RepBs G F' H ds vs
  | [], vs, h => by simpa only [RepBs] using h
  | d :: ds, vs, h => by
    simp only [RepBs] at h ⊢
    obtain ⟨v, r, h1, h2, h3⟩ := h
    exact ⟨v, r, h1, h2.mono e, RepBs.mono e h3⟩
theorem RepBs.one {d : D} {vs : List V} (h : RepBs G F H [d] vs) : ∃ v, vs = [v] ∧ RepB G F H d v := by
  simp only [RepBs] at h
  obtain ⟨v, r, rfl, h1, rfl⟩ := h
  exact ⟨v, rfl, h1⟩
theorem RepBs.two {d e : D} {vs : List V} (h : RepBs G F H [d, e] vs) : ∃ v w, vs = [v, w] ∧ RepB G F H d v ∧ RepB G F H e w := by
  simp only [RepBs] at h
  obtain ⟨v, r, rfl, h1, w, s, rfl, h2, rfl⟩ := h
  exact ⟨v, w, rfl, h1, h2⟩
theorem RepBs.three {d e f : D} {vs : List V} (h : RepBs G F H [d, e, f] vs) : ∃ v w u, vs = [v, w, u] ∧ RepB G F H d v ∧ RepB G F H e w ∧ RepB G F H f u := by
  simp only [RepBs] at h
  obtain ⟨v, r, rfl, h1, w, s, rfl, h2, u, s', rfl, h3, rfl⟩ := h
  exact ⟨v, w, u, rfl, h1, h2, h3⟩
/-- a slot seen as a borrowed value -/
theorem Stt.see {i : Nat} {od : OD} {d : D} {v : V} (S : Stt G F H (κ ++ ρ) (ς ++ σ) A) (hl : ς.length = κ.length) (e : ρ[i]? = some (some od)) (es : od.sh = some d) (ev : σ[i]? = some (some v)) : RepB G F H d v := by
  have e' : (κ ++ ρ)[κ.length + i]? = some (some od) := by rw [List.getElem?_append_right (by omega)]; simpa using e
  obtain ⟨w, A1, A2, h1, h2, _, _⟩ := S.sl.at e'
  have : (ς ++ σ)[κ.length + i]? = σ[i]? := by rw [← hl, List.getElem?_append_right (by omega)]; simp
  rw [this, ev] at h1
  cases h1
  exact h2.sh S.le es
theorem res_run : ∀ {ds : List DV} {xs : List D} {vs : List V} {F : Hp} {A : AS}, Stt G F H (ds.map DV.slot ++ (κ ++ ρ)) (vs.map some ++ (ς ++ σ)) A → ς.length = κ.length → Lnk σ ds vs → res ρ ds = some xs →
    ∃ F' A', Stt G F' H (κ ++ ρ) (ς ++ σ) A' ∧ Go true F H A F' H A' ∧ Le F F' ∧ RepBs G F' H xs vs
  | [], xs, vs, F, A, S, hl, l, e => by
    simp only [res] at e; cases e
    simp only [Lnk] at l; subst l
    exact ⟨F, A, S, .refl, .refl _, rfl⟩
  | .own od :: ds, xs, vs, F, A, S, hl, l, e => by
    simp only [Lnk] at l
    obtain ⟨v, r, rfl, l⟩ := l
    simp only [res, DV.get, Option.bind_some] at e
    cases q : res ρ ds with
    | none => rw [q] at e; cases e
    | some ys =>
      rw [q] at e; cases e
      obtain ⟨F1, A1, h1, S1, g1, le1⟩ := Stt.frz (p := true) S
      obtain ⟨F2, A2, S2, g2, le2, h2⟩ := res_run S1 hl l q
      exact ⟨F2, A2, S2, g1.trans g2, le1.trans le2, _, _, rfl, (h1.mono le2).b S2.le, h2⟩
  | .plc i :: ds, xs, vs, F, A, S, hl, l, e => by
    simp only [Lnk] at l
    obtain ⟨v, r, rfl, lv, l⟩ := l
    simp only [res, DV.get] at e
    cases q0 : ρ[i]?.join with
    | none => rw [q0] at e; cases e
    | some od =>
      rw [q0] at e
      simp only [Option.bind_some] at e
      cases q1 : od.sh with
      | none => rw [q1] at e; cases e
      | some d =>
        rw [q1] at e
        simp only [Option.bind_some] at e
        cases q : res ρ ds with
        | none => rw [q] at e; cases e
        | some ys =>
          rw [q] at e; cases e
          obtain ⟨F2, A2, S2, g2, le2, h2⟩ := res_run (Stt.pop_n S) hl l q
          have e0 : ρ[i]? = some (some od) := by
            cases h : ρ[i]? with
            | none => rw [h] at q0; cases q0
            | some y => rw [h] at q0; simp only [Option.join_some] at q0; rw [q0]
          exact ⟨F2, A2, S2, g2, le2, _, _, rfl, S2.see hl e0 q1 lv, h2⟩
end
/-- places of operands hold something -/
def okPl (ρ : Env) : List Opd → Bool
  | [] => true
  | .val _ _ :: as => okPl ρ as
  | .plc i :: as => (ρ[i]?.join).isSome && okPl ρ as
def mApp (op : List D → Option OD) (as : List Opd) : M OD := fun ρ =>
  if okPl ρ as then (evAll as ρ).bind fun ds ρ' => match (res ρ' ds).bind op with
    | some z => .ok z ρ'
    | none => .stuck
  else .stuck
/-- an operation on values does what op says of data -/
def RN (G : Gx) (r : List V → Hp → VK → Prop) (op : List D → Option OD) : Prop :=
  ∀ F H xs vs z Q, Le F H → RepBs G F H xs vs → op xs = some z → (∀ F' H' u B, New F H F' H' → OT G F' H' z u B → (∀ a, B a → H a = none ∧ F' a = none) → Q u H') → r vs H Q
section
variable {G : Gx} {W : WX} {F F' F1 F2 F3 H H' H1 H2 H3 : Hp} {A A' A1 A2 A3 : AS} {ρ ρ' κ : Env} {σ ς : St} {X : Cx} {e : Expr}
theorem okPl_ok : ∀ {as : List Opd}, Stt G F H (κ ++ ρ) (ς ++ σ) A → ς.length = κ.length → okPl ρ as = true → ∀ a ∈ as, a.ok σ
  | [], _, _, _, a, ha => by simp at ha
  | .val _ _ :: as, S, hl, h, a, ha => by
    rcases List.mem_cons.mp ha with rfl | ha'
    · intro i z; cases z
    · exact okPl_ok (as := as) S hl h a ha'
  | .plc i :: as, S, hl, h, a, ha => by
    simp only [okPl, Bool.and_eq_true] at h
    rcases List.mem_cons.mp ha with rfl | ha
    · intro j z
      injection z with z; subst z
      cases h0 : ρ[i]? with
      | none => rw [h0] at h; simp at h
      | some y =>
        cases y with
        | none => rw [h0] at h; simp at h
        | some od =>
          have e' : (κ ++ ρ)[κ.length + i]? = some (some od) := by rw [List.getElem?_append_right (by omega)]; simpa using h0
          obtain ⟨w, A1, A2, h1, _⟩ := S.sl.at e'
          have : (ς ++ σ)[κ.length + i]? = σ[i]? := by rw [← hl, List.getElem?_append_right (by omega)]; simp
          rw [this] at h1
          exact ⟨w, h1⟩
    · exact okPl_ok S hl h.2 a ha
/-- the result of an operation, laid on the stack -/
theorem app_done {p : Bool} {r : List V → Hp → VK → Prop} {op : List D → Option OD} (R : RN G r op) {ds : List DV} {xs : List D} {vs : List V} {z : OD} {Q : VK} {F0 H0 : Hp} {A0 : AS} (g : Go p F0 H0 A0 F H A)
    (S : Stt G F H (ds.map DV.slot ++ (κ ++ ρ)) (vs.map some ++ (ς ++ σ)) A) (hl : ς.length = κ.length) (l : Lnk σ ds vs) (e : res ρ ds = some xs) (ez : op xs = some z)
    (h : ∀ F' H' v A', Go p F0 H0 A0 F' H' A' → Stt G F' H' (some z :: (κ ++ ρ)) (some v :: (ς ++ σ)) A' → Q v H') : r vs H Q := by
  obtain ⟨F3, A3, S3, g3, le3, hr⟩ := res_run S hl l e
  refine R F3 H xs vs z Q S3.le hr ez fun F4 H4 u B n ht hB => ?_
  have S4 := S3.new n
  obtain ⟨A5, S5, h5⟩ := S4.push ht fun a ha => ⟨(hB a ha).2, fun z => by
    obtain ⟨o, q⟩ := S3.sl.there a z
    rw [(hB a ha).1] at q; cases q⟩
  refine h F4 H4 u A5 ?_ S5
  have g4 : Go p F0 H0 A0 F4 H4 A3 := (((g.trans g3).trans (n.go (p := true) (A := A3)))).imp fun z => by simp [z]
  refine ⟨g4.le, g4.keep, fun a ha => ?_, g4.nf⟩
  · rcases (h5 a).1 ha with b | b
    · by_cases hA : A0 a
      · exact .inl hA
      · right
        cases q2 : H0 a with
        | none => rfl
        | some o =>
          have := g.keep a o q2 (fun w => hA w.2)
          rw [(hB a b).1] at this; cases this
    · exact g4.sub a b
/-- an expression that is an operation on operands -/
theorem sx_app {as : List Opd} {op : List D → Option OD} {r : List V → Hp → VK → Prop} {t : TE} (ht : PE X e t) (R : RN G r op) (h : ∀ σ H Q, tAll G W as σ H (fun vs H1 => r vs H1 Q) → t σ H Q) : SX X G W (pAll as) e (mApp op as) := by
  refine PE.of ht fun σ H Q q => h σ H Q ?_
  obtain ⟨F, ρ, A, κ, ς, S, hl, q⟩ := q
  unfold mApp at q
  by_cases ho : okPl ρ as = true
  · rw [if_pos ho] at q
    refine tAll_run S hl (okPl_ok S hl ho) ?_
    cases e1 : evAll as ρ with
    | stuck => rw [e1] at q; exact q
    | exc x ρ' => rw [e1] at q; exact q
    | ok ds ρ' =>
      rw [e1] at q
      simp only [Out.bind_ok] at q
      intro F1 H1 vs A1 g1 S1 l1
      cases e2 : res ρ' ds with
      | none => rw [e2] at q; exact q.elim
      | some xs =>
        rw [e2] at q
        simp only [Option.bind_some] at q
        cases e3 : op xs with
        | none => rw [e3] at q; exact q.elim
        | some z =>
          rw [e3] at q
          exact app_done R g1 S1 hl l1 e2 e3 q
  · rw [if_neg ho] at q; exact q.elim
end
/-! ### names, constants -/
def mC (d : D) : M OD := fun ρ => .ok (.v d) ρ
/-- a name that holds data -/
def mVar (i : Nat) : M OD := fun ρ => match ρ[i]? with
  | some (some (.v d)) => .ok (.v d) ρ
  | _ => .stuck
/-- a name that gives away what it owns -/
def mMv (i : Nat) : M OD := fun ρ => match ρ[i]? with
  | some (some od) => .ok od (ρ.set i none)
  | _ => .stuck
/-- its value is data from now on -/
def mFz (f : M OD) : M OD := fun ρ => (f ρ).bind fun od ρ' => .ok (.v od.fz) ρ'
section
variable {G : Gx} {W : WX} {F F' F1 F2 F3 H H' H1 H2 H3 : Hp} {A A' A1 A2 A3 : AS} {ρ ρ' κ : Env} {σ ς : St} {X : Cx} {e : Expr}
theorem getKap {i : Nat} {x : Option OD} (e : ρ[i]? = some x) : (κ ++ ρ)[κ.length + i]? = some x := by rw [List.getElem?_append_right (by omega)]; simpa using e
theorem getSig {i : Nat} (hl : ς.length = κ.length) : (ς ++ σ)[κ.length + i]? = σ[i]? := by rw [← hl, List.getElem?_append_right (by omega)]; simp
theorem setKap {i : Nat} {x : Option OD} : (κ ++ ρ).set (κ.length + i) x = κ ++ ρ.set i x := by rw [List.set_append_right _ _ (by omega)]; simp
theorem sx_c {d : D} {v : V} (h : PE X e (tC v)) (r : ∀ F, Rep G F d v) : SX X G W true e (mC d) := PE.of h fun σ H Q q => by
  obtain ⟨F, ρ, A, κ, ς, S, hl, q⟩ := q
  exact q F H v A .refl (S.push_v (r F))
theorem sx_var {i : Nat} (h : PE X e (tVar i)) : SX X G W true e (mVar i) := PE.of h fun σ H Q q => by
  obtain ⟨F, ρ, A, κ, ς, S, hl, q⟩ := q
  unfold mVar at q
  split at q
  · rename_i d e1
    obtain ⟨v, A1, A2, h1, h2, h3, c⟩ := S.sl.at (getKap (κ := κ) e1)
    rw [getSig hl] at h1
    simp only [OT] at h2
    exact ⟨v, h1, q F H v A .refl (S.push_v h2.1)⟩
  · exact q.elim
theorem sx_mv {i : Nat} (h : PE X e (tVar i)) : SX X G W true e (mMv i) := PE.of h fun σ H Q q => by
  obtain ⟨F, ρ, A, κ, ς, S, hl, q⟩ := q
  unfold mMv at q
  split at q
  · rename_i od e1
    obtain ⟨v, A1, A2, h1, h2, h3, c⟩ := S.sl.at (getKap (κ := κ) e1)
    rw [getSig hl] at h1
    rw [setKap] at h3
    exact ⟨v, h1, q F H v A .refl ⟨S.le, by simp only [Sl]; exact ⟨_, _, _, _, rfl, h2, h3, c⟩, S.fr⟩⟩
  · exact q.elim
theorem sx_fz {p : Bool} {f : M OD} (h : SX X G W p e f) : SX X G W p e (mFz f) := PE.of h fun σ H Q q => by
  obtain ⟨F, ρ, A, κ, ς, S, hl, q⟩ := q
  refine ⟨F, ρ, A, κ, ς, S, hl, ?_⟩
  unfold mFz at q
  cases e1 : f ρ with
  | stuck => rw [e1] at q; exact q
  | exc x ρ' => rw [e1] at q; exact q
  | ok od ρ' =>
    rw [e1] at q
    intro F' H' v A' g S'
    obtain ⟨F2, A2, hr, S2, g2, _⟩ := Stt.frz (p := true) S'
    exact q F2 H' v A2 ((g.trans g2).imp fun z => by simp [z]) (S2.push_v hr)
theorem so_val {p : Bool} {f : M OD} (h : SX X G W p e f) : SO X G W e (.val p f) := h
theorem so_plc {i : Nat} (h : PE X e (tVar i)) : SO X G W e (.plc i) := h
end
/-! ### tests -/
def TB (G : Gx) (W : WX) (p : Bool) (f : M Bool) : TT := fun σ H Q => ∃ F ρ A κ ς, Stt G F H (κ ++ ρ) (ς ++ σ) A ∧ ς.length = κ.length ∧
  Pst G W p (f ρ) F H A κ ς σ fun b ρ' => ∀ F' H' A', Go p F H A F' H' A' → Stt G F' H' (κ ++ ρ') (ς ++ σ) A' → Q b H'
abbrev SB (X : Cx) (G : Gx) (W : WX) (p : Bool) (e : Expr) (f : M Bool) : Prop := PT X e (TB G W p f)
def asB (f : M OD) : M Bool := fun ρ => (f ρ).bind fun od ρ' => match od with
  | .v (.bl b) => .ok b ρ'
  | _ => .stuck
def mB (f : M Bool) : M OD := fun ρ => (f ρ).bind fun b ρ' => .ok (.v (.bl b)) ρ'
def bAnd (f g : M Bool) : M Bool := fun ρ => (f ρ).bind fun b ρ' => if b then g ρ' else .ok false ρ'
def bOr (f g : M Bool) : M Bool := fun ρ => (f ρ).bind fun b ρ' => if b then .ok true ρ' else g ρ'
def bNot (f : M Bool) : M Bool := fun ρ => (f ρ).bind fun b ρ' => .ok (!b) ρ'
def mIf {α : Type} (c : M Bool) (f g : M α) : M α := fun ρ => (c ρ).bind fun b ρ' => if b then f ρ' else g ρ'
section
variable {G : Gx} {W : WX} {F F' F1 F2 F3 H H' H1 H2 H3 : Hp} {A A' A1 A2 A3 : AS} {ρ ρ' κ : Env} {σ ς : St} {X : Cx} {e : Expr}
/-- the reading asB of an expression -/
theorem TX.asB {p : Bool} {f : M OD} {Q : Bool → Hp → Prop} (q : TB G W p (asB f) σ H Q) : TX G W p f σ H fun v H1 => ∃ b, v = .bl b ∧ Q b H1 := by
  obtain ⟨F, ρ, A, κ, ς, S, hl, q⟩ := q
  refine ⟨F, ρ, A, κ, ς, S, hl, ?_⟩
  unfold Vs.asB at q
  cases e1 : f ρ with
  | stuck => rw [e1] at q; exact q
  | exc x ρ' => rw [e1] at q; exact q
  | ok od ρ' =>
    rw [e1] at q
    simp only [Out.bind_ok] at q
    intro F' H' v A' g S'
    split at q
    · rename_i b
      obtain ⟨hr, S2⟩ := S'.pop_v
      simp only [Rep] at hr
      exact ⟨b, hr, q F' H' A' g S2⟩
    · exact q.elim
theorem sb_val {p : Bool} {f : M OD} (h : SX X G W p e f) (he : ∀ whole, isTrue e X.env whole = (do let v ← whole; standAt e.pos; holding [v] (truthy v)) := by intro _; rfl) : SB X G W p e (asB f) :=
  PT.of (pt_val h he) fun σ H Q q => TX.asB q
/-- two readings, one behind the other -/
theorem TB.bind {p q : Bool} {f : M Bool} {k : Bool → M Bool} {Q : Bool → Hp → Prop} {R : Bool → Hp → Prop} (h : TB G W (p && q) (fun ρ => (f ρ).bind k) σ H Q)
    (hk : ∀ b H1, TB G W q (k b) σ H1 Q → R b H1) : TB G W p f σ H R := by
  obtain ⟨F, ρ, A, κ, ς, S, hl, h⟩ := h
  refine ⟨F, ρ, A, κ, ς, S, hl, ?_⟩
  dsimp only at h
  cases e1 : f ρ with
  | stuck => rw [e1] at h; exact h
  | exc x ρ' => rw [e1] at h; exact h
  | ok b ρ1 =>
    rw [e1] at h
    simp only [Out.bind_ok] at h
    intro F1 H1 A1 g1 S1
    refine hk b H1 ⟨F1, ρ1, A1, κ, ς, S1, hl, ?_⟩
    cases e2 : k b ρ1 with
    | stuck => rw [e2] at h; exact h
    | exc x ρ' =>
      rw [e2] at h
      exact fun F' H' A' cls d g S' xr => h F' H' A' cls d ((g1.trans g).imp fun z => by cases z) S' xr
    | ok b2 ρ2 =>
      rw [e2] at h
      exact fun F' H' A' g S' => h F' H' A' (g1.trans g) S'
theorem TB.pure {p : Bool} {b : Bool} {Q : Bool → Hp → Prop} (h : TB G W p (fun ρ => .ok b ρ) σ H Q) : Q b H := by
  obtain ⟨F, ρ, A, κ, ς, S, hl, h⟩ := h
  exact h F H A .refl S
theorem TB.weak {p q : Bool} {f : M Bool} {Q : Bool → Hp → Prop} (h : TB G W p f σ H Q) (hq : p = true → q = true) : TB G W q f σ H Q := by
  obtain ⟨F, ρ, A, κ, ς, S, hl, h⟩ := h
  refine ⟨F, ρ, A, κ, ς, S, hl, ?_⟩
  cases e1 : f ρ with
  | stuck => rw [e1] at h; exact h
  | exc x ρ' => rw [e1] at h; exact h
  | ok b ρ1 =>
    rw [e1] at h
    exact fun F' H' A' g S' => h F' H' A' (g.imp hq) S'
variable {a b c : Expr} {rest : List Expr} {pos : Pos} {p q : Bool} {f g : M Bool}
theorem sb_not (ha : SB X G W p a f) : SB X G W p (.UnaryOp .Not a pos) (bNot f) := PT.of (pt_not ha) fun σ H Q h => by
  have h' : TB G W (p && true) (fun ρ => (f ρ).bind fun b ρ' => .ok (!b) ρ') σ H Q := by rw [Bool.and_true]; exact h
  exact TB.bind (k := fun b ρ' => .ok (!b) ρ') h' fun b H1 z => TB.pure z
/-- and, or: parts -/
abbrev SW (X : Cx) (G : Gx) (W : WX) (p : Bool) (e : Expr) (f : M Bool) : Prop := PW X e (TB G W p f)
theorem PW.of {t t' : TT} (h : PW X e t) (k : ∀ σ H Q, t' σ H Q → t σ H Q) : PW X e t' := ⟨fun wh pins s σ H Q I q => h.run wh pins s σ H Q I (k σ H Q q)⟩
theorem sw_and1 (ha : SB X G W p a f) : SW X G W p (.BoolOp .And [a] pos) f := pw_and1 ha
theorem sw_or1 (ha : SB X G W p a f) : SW X G W p (.BoolOp .Or [a] pos) f := pw_or1 ha
theorem sw_and (ha : SB X G W p a f) (hb : SW X G W q (.BoolOp .And (b :: rest) pos) g) : SW X G W (p && q) (.BoolOp .And (a :: b :: rest) pos) (bAnd f g) := PW.of (pw_and ha hb) fun σ H Q h =>
  TB.bind (k := fun b ρ' => if b then g ρ' else .ok false ρ') h fun b H1 z => by
    cases b with
    | true => exact iteT (by simpa using z)
    | false => exact iteF (TB.pure (p := q) (by simpa using z))
theorem sw_or (ha : SB X G W p a f) (hb : SW X G W q (.BoolOp .Or (b :: rest) pos) g) : SW X G W (p && q) (.BoolOp .Or (a :: b :: rest) pos) (bOr f g) := PW.of (pw_or ha hb) fun σ H Q h =>
  TB.bind (k := fun b ρ' => if b then .ok true ρ' else g ρ') h fun b H1 z => by
    cases b with
    | true => exact iteT (TB.pure (p := q) (by simpa using z))
    | false => exact iteF (by simpa using z)
theorem sb_w (h : SW X G W p e f) : SB X G W p e f := PW.pt h
end
end Vs

/-! VsD: statements. -/
namespace Vs
open PySem L2
inductive Fl where
  | nx
  | rt (od : OD)
  | bk
  | ct
abbrev SM := M Fl
/-- slots that are not stored anew -/
def Pin (pn : List Nat) (σ σ' : St) : Prop := ∀ i ∈ pn, σ'[i]? = σ[i]?
theorem Pin.refl {pn : List Nat} {σ : St} : Pin pn σ σ := fun _ _ => rfl
theorem Pin.trans {pn : List Nat} {σ σ1 σ2 : St} (a : Pin pn σ σ1) (b : Pin pn σ1 σ2) : Pin pn σ σ2 := fun i h => (b i h).trans (a i h)
theorem Pin.set {pn : List Nat} {σ : St} {i : Nat} {x : Option V} (h : i ∉ pn) : Pin pn σ (σ.set i x) := fun j hj => by
  rw [List.getElem?_set_ne]
  rintro rfl
  exact h hj
/-- how a statement's end is met, from (F, H, A, σ) on -/
def Fin (G : Gx) (W : WX) (pn : List Nat) (D : Ends) (F H : Hp) (A : AS) (σ : St) (o : Out Fl) : Prop := match o with
  | .ok fl ρ' => ∀ F' H' σ' A', Go false F H A F' H' A' → Pin pn σ σ' → match fl with
    | .nx => Stt G F' H' ρ' σ' A' → D.nx σ' H'
    | .bk => Stt G F' H' ρ' σ' A' → D.bk σ' H'
    | .ct => Stt G F' H' ρ' σ' A' → D.ct σ' H'
    | .rt od => ∀ v, Stt G F' H' (some od :: ρ') (some v :: σ') A' → D.rt v H'
  | .exc x ρ' => ∀ F' H' σ' A' cls d, Go false F H A F' H' A' → Pin pn σ σ' → Stt G F' H' ρ' σ' A' → XRep G F' H' x cls d → W cls d σ' H'
  | .stuck => False
def TZ (G : Gx) (W : WX) (pn : List Nat) (f : SM) : TS := fun D σ H => ∃ F ρ A, Stt G F H ρ σ A ∧ Fin G W pn D F H A σ (f ρ)
abbrev SS (X : Cx) (G : Gx) (W : WX) (pn : List Nat) (s : Stmt) (f : SM) : Prop := PS X s (TZ G W pn f)
abbrev SSs (X : Cx) (G : Gx) (W : WX) (pn : List Nat) (s : List Stmt) (f : SM) : Prop := PSs X s (TZ G W pn f)
section
variable {G : Gx} {W : WX} {pn : List Nat} {D : Ends} {F F' F1 F2 F3 H H' H1 H2 H3 : Hp} {A A' A1 A2 A3 : AS} {ρ ρ' κ : Env} {σ σ' ς : St} {X : Cx} {e : Expr}
/-- later on -/
theorem Fin.later {o : Out Fl} (h : Fin G W pn D F H A σ o) (g : Go false F H A F1 H1 A1) (p : Pin pn σ σ') : Fin G W pn D F1 H1 A1 σ' o := by
  cases o with
  | ok fl ρ' =>
    intro F' H' σ2 A' g2 p2
    have q := h F' H' σ2 A' (g.trans g2) (p.trans p2)
    cases fl <;> exact q
  | exc x ρ' => exact fun F' H' σ2 A' cls d g2 p2 => h F' H' σ2 A' cls d (g.trans g2) (p.trans p2)
  | stuck => exact h
theorem Fin.nx (h : Fin G W pn D F H A σ (.ok .nx ρ)) (S : Stt G F H ρ σ A) : D.nx σ H := h F H σ A .refl .refl S
/-- an exception of an expression -/
theorem Fin.exc {x : XV} (h : Fin G W pn D F H A σ (.exc x ρ)) {K : OD → Env → Prop} {p : Bool} : Pst G W p (.exc x ρ) F H A [] [] σ K :=
  fun F' H' A' cls d g S xr => h F' H' σ A' cls d g .refl S xr
/-- an expression, then more -/
theorem TX.then {p : Bool} {f : M OD} {k : OD → SM} {R : VK} (S : Stt G F H ρ σ A) (h : Fin G W pn D F H A σ ((f ρ).bind k))
    (hk : ∀ od ρ' F' H' v A', f ρ = .ok od ρ' → Go p F H A F' H' A' → Stt G F' H' (some od :: ρ') (some v :: σ) A' → Fin G W pn D F' H' A' σ (k od ρ') → R v H') : TX G W p f σ H R := by
  refine ⟨F, ρ, A, [], [], S, rfl, ?_⟩
  cases e1 : f ρ with
  | stuck => rw [e1] at h; exact h
  | exc x ρ' => rw [e1] at h; exact h.exc
  | ok od ρ' =>
    rw [e1] at h
    intro F' H' v A' g S'
    exact hk od ρ' F' H' v A' e1 g S' (h.later (g.imp (fun z => by cases z)) .refl)
theorem TB.then {p : Bool} {f : M Bool} {k : Bool → SM} {R : Bool → Hp → Prop} (S : Stt G F H ρ σ A) (h : Fin G W pn D F H A σ ((f ρ).bind k))
    (hk : ∀ b ρ' F' H' A', f ρ = .ok b ρ' → Go p F H A F' H' A' → Stt G F' H' ρ' σ A' → Fin G W pn D F' H' A' σ (k b ρ') → R b H') : TB G W p f σ H R := by
  refine ⟨F, ρ, A, [], [], S, rfl, ?_⟩
  cases e1 : f ρ with
  | stuck => rw [e1] at h; exact h
  | exc x ρ' => rw [e1] at h; exact fun F' H' A' cls d g S xr => h F' H' σ A' cls d g .refl S xr
  | ok od ρ' =>
    rw [e1] at h
    intro F' H' A' g S'
    exact hk od ρ' F' H' A' e1 g S' (h.later (g.imp (fun z => by cases z)) .refl)
/-- a value goes into a slot -/
theorem Stt.store {od : OD} {v : V} {i : Nat} (S : Stt G F H (some od :: ρ) (some v :: σ) A) (hi : i < ρ.length) : ∃ A', Stt G F H (ρ.set i (some od)) (σ.set i (some v)) A' ∧ ∀ a, A' a → A a := by
  obtain ⟨B, A1, h1, S1, c, hB⟩ := S.pop
  obtain ⟨A2, h2, sub⟩ := S1.sl.drop (i := i)
  have hiσ : i < σ.length := by rw [S1.sl.len]; exact hi
  have e0 : (ρ.set i none)[i]? = some none := List.getElem?_set_self (by simpa using hi)
  have h3 := h2.free (x := some v) e0
  have e1 : (σ.set i (some v))[i]? = some (some v) := List.getElem?_set_self hiσ
  have h4 := h3.put e0 e1 h1 (.mk' B A2 fun a b z => c.2 a b (sub a z))
  rw [List.set_set] at h4
  have hs : ∀ a, B a ∨ A2 a → A a := fun a z => z.elim (fun b => c.l b) fun z => c.r (sub a z)
  exact ⟨_, ⟨S.le, h4, fun a ha => S.fr a (hs a ha)⟩, hs⟩
theorem Stt.dropTop {x : Option OD} {y : Option V} (S : Stt G F H (x :: ρ) (y :: σ) A) : ∃ A', Stt G F H ρ σ A' ∧ ∀ a, A' a → A a := by
  cases x with
  | none => exact ⟨A, S.pop_n, fun _ h => h⟩
  | some od =>
    have sl := S.sl
    simp only [Sl] at sl
    obtain ⟨w, r, B, A', e, h1, h2, c⟩ := sl
    injection e with e1 e2
    subst e1 e2
    exact ⟨A', ⟨S.le, h2, fun a ha => S.fr a (c.r ha)⟩, fun a ha => c.r ha⟩
end
def zNext : SM := fun ρ => .ok .nx ρ
def zBreak : SM := fun ρ => .ok .bk ρ
def zCont : SM := fun ρ => .ok .ct ρ
def zSeq (f g : SM) : SM := fun ρ => (f ρ).bind fun fl ρ' => match fl with
  | .nx => g ρ'
  | .bk => .ok .bk ρ'
  | .ct => .ok .ct ρ'
  | .rt od => .ok (.rt od) ρ'
def zSet (i : Nat) (f : M OD) : SM := fun ρ => (f ρ).bind fun od ρ' => if i < ρ'.length then .ok .nx (ρ'.set i (some od)) else .stuck
def zRet (f : M OD) : SM := fun ρ => (f ρ).bind fun od ρ' => .ok (.rt od) ρ'
def zRetN : SM := fun ρ => .ok (.rt (.v .non)) ρ
def zDrop (f : M OD) : SM := fun ρ => (f ρ).bind fun _ ρ' => .ok .nx ρ'
def zIf (c : M Bool) (f g : SM) : SM := mIf c f g
/-- the slot's object becomes data -/
def zFz (i : Nat) (f : SM) : SM := fun ρ => match ρ[i]? with
  | some (some od) => f (ρ.set i (some (.v od.fz)))
  | _ => .stuck
section
variable {G : Gx} {W : WX} {pn : List Nat} {D : Ends} {F F' F1 F2 F3 H H' H1 H2 H3 : Hp} {A A' A1 A2 A3 : AS} {ρ ρ' κ : Env} {σ σ' ς : St} {X : Cx} {e : Expr} {st : Stmt} {rest a b : List Stmt} {f g : SM} {pos : Pos}
theorem zs_nil : SSs X G W pn [] zNext := PSs.of pss_nil fun D σ H h => by
  obtain ⟨F, ρ, A, S, h⟩ := h
  exact h.nx S
theorem TZ.seq (h : TZ G W pn (zSeq f g) D σ H) : TZ G W pn f { D with nx := TZ G W pn g D } σ H := by
  obtain ⟨F, ρ, A, S, h⟩ := h
  refine ⟨F, ρ, A, S, ?_⟩
  unfold zSeq at h
  cases e1 : f ρ with
  | stuck => rw [e1] at h; exact h
  | exc x ρ' => rw [e1] at h; exact h
  | ok fl ρ' =>
    rw [e1] at h
    simp only [Out.bind_ok] at h
    intro F' H' σ' A' g' p'
    cases fl with
    | nx => exact fun S' => ⟨F', ρ', A', S', h.later g' p'⟩
    | bk => exact h F' H' σ' A' g' p'
    | ct => exact h F' H' σ' A' g' p'
    | rt od => exact h F' H' σ' A' g' p'
theorem zs_cons (h1 : SS X G W pn st f) (h2 : SSs X G W pn rest g) : SSs X G W pn (st :: rest) (zSeq f g) := PSs.of (pss_cons h1 h2) fun D σ H h => h.seq
theorem zs_one (h1 : SS X G W pn st f) : SSs X G W pn [st] f := pss_one h1
theorem z_pass : SS X G W pn (.Pass pos) zNext := PS.of ps_pass fun D σ H h => by
  obtain ⟨F, ρ, A, S, h⟩ := h
  exact h.nx S
theorem z_break : SS X G W pn (.Break pos) zBreak := PS.of ps_break fun D σ H h => by
  obtain ⟨F, ρ, A, S, h⟩ := h
  exact h F H σ A .refl .refl S
theorem z_cont : SS X G W pn (.Continue pos) zCont := PS.of ps_continue fun D σ H h => by
  obtain ⟨F, ρ, A, S, h⟩ := h
  exact h F H σ A .refl .refl S
theorem TZ.set {i : Nat} {p : Bool} {f : M OD} (hi : i ∉ pn) (h : TZ G W pn (zSet i f) D σ H) : tAsg (TX G W p f) (gName i) D σ H := by
  obtain ⟨F, ρ, A, S, h⟩ := h
  unfold zSet at h
  refine TX.then S h fun od ρ' F' H' v A' e1 g' S' h' => ?_
  split at h'
  · rename_i hl
    obtain ⟨A2, S2, sub⟩ := S'.store hl
    exact h' F' H' _ A2 (Go.refl.less sub) (.set hi) S2
  · exact h'.elim
theorem z_set {i : Nat} {x : Str} {pos' : Pos} {p : Bool} {f : M OD} (hN : X.N.Nodup) (he : SX X G W p e f) (hi : X.N[i]? = some x) (hp : i ∉ pn) (hx : Loc X.env.scope x) (hs : swapsWith e (some (.Name x pos')) pos.line X.env = pure false) (hf : X.fn x = true ∨ X.env.scope.names.lookup x = some .local) :
    SS X G W pn (.Assign [.Name x pos'] e pos) (zSet i f) := PS.of (ps_set hN hi hx he hs hf) fun D σ H h => TZ.set hp h
theorem z_ret {p : Bool} {f : M OD} (he : SX X G W p e f) : SS X G W pn (.Return (some e) pos) (zRet f) := PS.of (ps_ret he) fun D σ H h => by
  obtain ⟨F, ρ, A, S, h⟩ := h
  refine TX.then S h fun od ρ' F' H' v A' e1 g' S' h' => ?_
  exact h' F' H' σ A' .refl .refl v S'
theorem z_retN : SS X G W pn (.Return none pos) zRetN := PS.of ps_retN fun D σ H h => by
  obtain ⟨F, ρ, A, S, h⟩ := h
  exact h F H σ A .refl .refl .non (S.push_v (by simp only [Rep]))
theorem z_drop {p : Bool} {f : M OD} (he : SX X G W p e f) (hs : swapsWith e none pos.line X.env = pure false := by rfl) : SS X G W pn (.Expr e pos) (zDrop f) := PS.of (ps_expr he hs) fun D σ H h => by
  obtain ⟨F, ρ, A, S, h⟩ := h
  refine TX.then S h fun od ρ' F' H' v A' e1 g' S' h' => ?_
  obtain ⟨A2, S2, sub⟩ := S'.dropTop
  exact h' F' H' σ A2 (Go.refl.less sub) .refl S2
theorem z_if {c : Expr} {p : Bool} {fc : M Bool} (hc : SB X G W p c fc) (ha : SSs X G W pn a f) (hb : SSs X G W pn b g) : SS X G W pn (.If c a b pos) (zIf fc f g) := PS.of (ps_if hc ha hb) fun D σ H h => by
  obtain ⟨F, ρ, A, S, h⟩ := h
  refine TB.then S h fun b ρ' F' H' A' e1 g' S' h' => ?_
  cases b with
  | true => exact iteT ⟨F', ρ', A', S', h'⟩
  | false => exact iteF ⟨F', ρ', A', S', h'⟩
theorem Stt.frzAt {i : Nat} {od : OD} (S : Stt G F H ρ σ A) (e : ρ[i]? = some (some od)) : ∃ F' A', Stt G F' H (ρ.set i (some (.v od.fz))) σ A' ∧ ∀ p, Go p F H A F' H A' := by
  obtain ⟨v, A1, A2, h1, h2, h3, c⟩ := S.sl.at e
  have S1 : Stt G F H (some od :: ρ.set i none) (some v :: σ) A := ⟨S.le, by simp only [Sl]; exact ⟨_, _, _, _, rfl, h2, h3, c⟩, S.fr⟩
  obtain ⟨F', A', hr, S2, g, _⟩ := Stt.frz (p := true) S1
  have e0 : (ρ.set i none)[i]? = some none := List.getElem?_set_self (List.getElem?_eq_some_iff.mp e).1
  have ho : OT G F' H (.v od.fz) v (fun _ => False) := by simp only [OT]; exact ⟨hr, fun _ z => z⟩
  have h4 := S2.sl.put e0 h1 ho (A := A') (.nil_l fun _ z => z)
  rw [List.set_set] at h4
  exact ⟨F', A', ⟨S2.le, h4, S2.fr⟩, fun p => g.imp fun _ => rfl⟩
theorem zs_fz (i : Nat) (h : SSs X G W pn rest f) : SSs X G W pn rest (zFz i f) := PSs.of h fun D σ H q => by
  obtain ⟨F, ρ, A, S, q⟩ := q
  unfold zFz at q
  split at q
  · rename_i od e1
    obtain ⟨F', A', S', g⟩ := S.frzAt e1
    exact ⟨F', _, A', S', q.later (g false) .refl⟩
  · exact q.elim
end
/-! ### while -/
def zLoop (r : SM) : Fl → SM
  | .nx => r
  | .ct => r
  | .bk => fun ρ => .ok .nx ρ
  | .rt od => fun ρ => .ok (.rt od) ρ
def zWhile : Nat → M Bool → SM → SM
  | 0, _, _ => fun _ => .stuck
  | n + 1, c, f => fun ρ => (c ρ).bind fun b ρ1 => if b then (f ρ1).bind (zLoop (zWhile n c f)) else .ok .nx ρ1
section
variable {G : Gx} {W : WX} {pn : List Nat} {D : Ends} {F F' F1 F2 F3 H H' H1 H2 H3 : Hp} {A A' A1 A2 A3 : AS} {ρ ρ' κ : Env} {σ σ' ς : St} {X : Cx} {e : Expr} {st : Stmt} {rest a b : List Stmt} {f g : SM} {pos : Pos}
/-- a turn's body, towards the next turn -/
theorem turn_run {r : SM} {N : St → Hp → Prop} (S : Stt G F H ρ σ A) (h : Fin G W pn D F H A σ ((f ρ).bind (zLoop r)))
    (hN : ∀ ρ' F' H' σ' A', Go false F H A F' H' A' → Pin pn σ σ' → Stt G F' H' ρ' σ' A' → Fin G W pn D F' H' A' σ' (r ρ') → N σ' H') : TZ G W pn f { D with nx := N, ct := N, bk := D.nx } σ H := by
  refine ⟨F, ρ, A, S, ?_⟩
  cases e1 : f ρ with
  | stuck => rw [e1] at h; exact h
  | exc x ρ' => rw [e1] at h; exact h
  | ok fl ρ' =>
    rw [e1] at h
    simp only [Out.bind_ok] at h
    intro F' H' σ' A' g' p'
    cases fl with
    | nx => exact fun S' => hN ρ' F' H' σ' A' g' p' S' (h.later g' p')
    | ct => exact fun S' => hN ρ' F' H' σ' A' g' p' S' (h.later g' p')
    | bk => exact fun S' => h F' H' σ' A' g' p' S'
    | rt od => exact h F' H' σ' A' g' p'
theorem z_while (n : Nat) {c : Expr} {body : List Stmt} {p : Bool} {fc : M Bool} (hp : PassesOwn (model X.prog X.w) X.A X.env X.xe) (hc : SB X G W p c fc) (hb : SSs X G W pn body f) : SS X G W pn (.While c body [] pos) (zWhile n fc f) := PS.of (ps_while hp hc hb) fun D σ H h => by
  obtain ⟨F0, ρ0, A0, S0, h⟩ := h
  refine ⟨fun m σ H => ∃ F ρ A, Stt G F H ρ σ A ∧ Fin G W pn D F H A σ (zWhile m fc f ρ), ⟨n, F0, ρ0, A0, S0, h⟩, ?_⟩
  rintro m σ H ⟨F, ρ, A, S, h⟩
  cases m with
  | zero => exact h.elim
  | succ m =>
    refine TB.then S h fun b ρ' F' H' A' e1 g' S' h' => ?_
    cases b with
    | false => exact iteF (h'.nx S')
    | true => exact iteT ⟨fun σ H => ∃ F ρ A, Stt G F H ρ σ A ∧ Fin G W pn D F H A σ (zWhile m fc f ρ), fun σ2 H2 z => ⟨m, Nat.lt_succ_self m, z⟩, turn_run S' h' fun ρ2 F2 H2 σ2 A2 _ _ S2 h2 => ⟨F2, ρ2, A2, S2, h2⟩⟩
end
/-! ### for -/
/-- a target takes an item -/
inductive Tgt where
  | name (i : Nat)
  | tup (ts : List Nat)
def setAll : List Nat → List D → Env → Option Env
  | [], [], ρ => some ρ
  | i :: is, d :: ds, ρ => if i < ρ.length then setAll is ds (ρ.set i (some (.v d))) else none
  | _, _, _ => none
def Tgt.put : Tgt → D → Env → Option Env
  | .name i, d, ρ => if i < ρ.length then some (ρ.set i (some (.v d))) else none
  | .tup is, .tup ds, ρ => setAll is ds ρ
  | .tup _, _, _ => none
def Tgt.ix : Tgt → List Nat
  | .name i => [i]
  | .tup is => is
def zFor (tg : Tgt) (f : SM) : List D → SM
  | [] => fun ρ => .ok .nx ρ
  | d :: ds => fun ρ => match tg.put d ρ with
    | some ρ1 => (f ρ1).bind (zLoop (zFor tg f ds))
    | none => .stuck
/-- the readings of a target -/
def gNames : List Nat → TGs
  | [] => gNil
  | i :: is => gCons (gName i) (gNames is)
def Tgt.t (K : PySem.W.Frag) : Tgt → TG
  | .name i => gName i
  | .tup is => gTup K is.length (gNames is)
section
variable {G : Gx} {W : WX} {pn : List Nat} {D : Ends} {F F' F1 F2 F3 H H' H1 H2 H3 : Hp} {A A' A1 A2 A3 : AS} {ρ ρ' κ : Env} {σ σ' ς : St} {X : Cx} {e : Expr} {st : Stmt} {rest a b : List Stmt} {f g : SM} {pos : Pos}
theorem Stt.setv {d : Vs.D} {v : V} {i : Nat} (S : Stt G F H ρ σ A) (h : Rep G F d v) (hi : i < ρ.length) : ∃ A', Stt G F H (ρ.set i (some (.v d))) (σ.set i (some v)) A' ∧ ∀ a, A' a → A a := (S.push_v h).store hi
theorem names_run : ∀ {is : List Nat} {ds : List Vs.D} {vs : List V} {ρ ρ1 : Env} {σ : St} {A : AS} {Q : St → Hp → Prop}, Stt G F H ρ σ A → Reps G F ds vs → setAll is ds ρ = some ρ1 → (∀ i ∈ is, i ∉ pn) →
    (∀ σ' A', Stt G F H ρ1 σ' A' → (∀ a, A' a → A a) → Pin pn σ σ' → Q σ' H) → gNames is vs σ H Q
  | [], ds, vs, ρ, ρ1, σ, A, Q, S, r, e, hp, q => by
    cases ds with
    | nil =>
      simp only [setAll] at e; cases e
      simp only [Reps] at r
      exact ⟨r, q σ A S (fun _ h => h) .refl⟩
    | cons d ds => simp [setAll] at e
  | i :: is, ds, vs, ρ, ρ1, σ, A, Q, S, r, e, hp, q => by
    cases ds with
    | nil => simp [setAll] at e
    | cons d ds =>
      simp only [setAll] at e
      split at e
      · rename_i hi
        simp only [Reps] at r
        obtain ⟨v, vr, rfl, r1, r2⟩ := r
        obtain ⟨A1, S1, sub⟩ := S.setv r1 hi
        refine ⟨v, vr, rfl, ?_⟩
        exact names_run S1 r2 e (fun j hj => hp j (List.mem_cons_of_mem _ hj)) fun σ' A' S' s' p' => q σ' A' S' (fun a ha => sub a (s' a ha)) ((Pin.set (hp i List.mem_cons_self)).trans p')
      · cases e
theorem tgt_run {tg : Tgt} {d : Vs.D} {v : V} {ρ1 : Env} {Q : St → Hp → Prop} (S : Stt G F H ρ σ A) (r : Rep G F d v) (e : tg.put d ρ = some ρ1) (hp : ∀ i ∈ tg.ix, i ∉ pn)
    (q : ∀ σ' A', Stt G F H ρ1 σ' A' → (∀ a, A' a → A a) → Pin pn σ σ' → Q σ' H) : tg.t G.K v σ H Q := by
  cases tg with
  | name i =>
    simp only [Tgt.put] at e
    split at e
    · rename_i hi
      cases e
      obtain ⟨A1, S1, sub⟩ := S.setv r hi
      exact q _ A1 S1 sub (.set (hp i (by simp [Tgt.ix])))
    · cases e
  | tup is =>
    cases d with
    | tup ds =>
      simp only [Tgt.put] at e
      simp only [Rep] at r
      obtain ⟨a, vs, rfl, h1, h2⟩ := r
      have hlen : ds.length = is.length := by
        clear h1 h2 hp q S
        induction is generalizing ds ρ with
        | nil => cases ds with
          | nil => rfl
          | cons => simp [setAll] at e
        | cons i is ih => cases ds with
          | nil => simp [setAll] at e
          | cons d ds =>
            simp only [setAll] at e
            split at e
            · have := ih ds e
              simp [this]
            · cases e
      refine ⟨a, vs, rfl, S.le.sqt h1, by rw [h2.len, hlen], ?_⟩
      exact names_run S h2 e hp q
    | _ => simp [Tgt.put] at e
/-- the items that are walked: a list's, a tuple's, a text's -/
def strD (s : Str) : List Vs.D := s.cps.toList.map fun c => .str ⟨#[c]⟩
def items : Vs.D → Option (List Vs.D)
  | .lst ds => some ds
  | .rol ds => some ds
  | .tup ds => some ds
  | .str s => some (strD s)
  | _ => none
/-- a walk over n things that no turn changes: yv tells them, P what must hold -/
structure Wk (J : It) (P : Hp → Prop) (yv : List V) : Prop where
  go : ∀ i H x, P H → yv[i]? = some x → J.go i H
  yld : ∀ i H x y H', P H → yv[i]? = some x → J.yld i H y H' → y = x ∧ H' = H
  stop : ∀ H, P H → J.stop yv.length H
theorem wk_list {K : PySem.W.Frag} {a : Addr} {xs : List V} : Wk (Itl K a) (fun H => SqL K H a xs) xs where
  go := fun i H x p e => ⟨xs, x, p, e⟩
  yld := fun i H x y H' p e h => ⟨by have := h.2 xs p; rw [e] at this; exact (Option.some.inj this).symm, h.1⟩
  stop := fun H p => ⟨xs, p, Nat.le_refl _⟩
theorem wk_tup {K : PySem.W.Frag} {a : Addr} {xs : List V} : Wk (Itt K a) (fun H => SqT K H a xs) xs where
  go := fun i H x p e => ⟨xs, x, p, e⟩
  yld := fun i H x y H' p e h => ⟨by have := h.2 xs p; rw [e] at this; exact (Option.some.inj this).symm, h.1⟩
  stop := fun H p => ⟨xs, p, Nat.le_refl _⟩
def strV (s : Str) : List V := s.cps.toList.map fun c => .str ⟨#[c]⟩
theorem wk_str {z : Str} : Wk (Its z) (fun _ => True) (strV z) where
  go := fun i H x _ e => by
    have := (List.getElem?_eq_some_iff.mp e).1
    show i < z.cps.size
    simpa [strV] using this
  yld := fun i H x y H' _ e h => by
    obtain ⟨h1, c, hc, rfl⟩ := h
    refine ⟨?_, h1⟩
    simp only [strV, List.getElem?_map, Array.getElem?_toList, hc, Option.map_some, Option.some.injEq] at e
    exact e
  stop := fun H _ => by show z.cps.size ≤ _; simp [strV]
def rngV (lo : Int) (n : Nat) : List V := (List.range n).map fun (k : Nat) => .int (lo + (k : Int))
def rngD (lo : Int) (n : Nat) : List Vs.D := (List.range n).map fun (k : Nat) => .int (lo + (k : Int))
theorem wk_rng {lo : Int} {n : Nat} : Wk (Itr lo n) (fun _ => True) (rngV lo n) where
  go := fun i H x _ e => by
    have := (List.getElem?_eq_some_iff.mp e).1
    show i < n
    simpa [rngV] using this
  yld := fun i H x y H' _ e h => by
    obtain ⟨h1, rfl⟩ := h
    refine ⟨?_, h1⟩
    have hi : i < n := by simpa [rngV] using (List.getElem?_eq_some_iff.mp e).1
    simp only [rngV, List.getElem?_map, List.getElem?_range hi, Option.map_some, Option.some.injEq] at e
    exact e
  stop := fun H _ => by show n ≤ _; simp [rngV]
theorem reps_str {z : Str} : Reps G F (strD z) (strV z) := .map fun c _ => by simp only [Rep]
theorem reps_rng {lo : Int} {n : Nat} : Reps G F (rngD lo n) (rngV lo n) := .map fun c _ => by simp only [Rep]
/-- the loop over a walk -/
theorem walk_run {J : It} {P : Hp → Prop} {yv : List V} {tg : Tgt} (w : Wk J P yv) {ds : List Vs.D} (S : Stt G F H ρ σ A) (r : Reps G F ds yv) (hP : ∀ F' H', Le F F' → Le F' H' → P H') (hp : ∀ i ∈ tg.ix, i ∉ pn)
    (h : Fin G W pn D F H A σ (zFor tg f ds ρ)) :
    ∃ W' : Nat → Nat → St → Hp → Prop, (∃ m, W' 0 m σ H) ∧ ∀ i m σ H, W' i m σ H → (J.stop i H ∧ D.nx σ H) ∨ (J.go i H ∧ ∃ N : St → Hp → Prop, (∀ σ' H', N σ' H' → ∃ m', m' < m ∧ W' (i + 1) m' σ' H') ∧
      ∀ x H', J.yld i H x H' → tg.t G.K x σ H' fun σ2 H2 => TZ G W pn f { D with nx := N, ct := N, bk := D.nx } σ2 H2) := by
  refine ⟨fun i m σ' H' => m = yv.length - i ∧ i ≤ yv.length ∧ ∃ F' ρ' A', Le F F' ∧ Stt G F' H' ρ' σ' A' ∧ Fin G W pn D F' H' A' σ' (zFor tg f (ds.drop i) ρ'), ⟨yv.length, by simp, Nat.zero_le _, F, ρ, A, .refl _, S, h⟩, ?_⟩
  rintro i m σ1 H1 ⟨rfl, hi, F1, ρ1, A1, le1, S1, h1⟩
  have p1 := hP F1 H1 le1 S1.le
  have hlen := r.len
  by_cases hlt : i < yv.length
  · right
    have ey : yv[i]? = some yv[i] := List.getElem?_eq_getElem hlt
    have hd : i < ds.length := by omega
    have ed : ds[i]? = some ds[i] := List.getElem?_eq_getElem hd
    refine ⟨w.go i H1 _ p1 ey, fun σ' H' => yv.length - (i + 1) < yv.length - i ∧ i + 1 ≤ yv.length ∧ ∃ F' ρ' A', Le F F' ∧ Stt G F' H' ρ' σ' A' ∧ Fin G W pn D F' H' A' σ' (zFor tg f (ds.drop (i + 1)) ρ'),
      fun σ' H' z => ⟨yv.length - (i + 1), z.1, rfl, z.2⟩, fun x H' y => ?_⟩
    obtain ⟨rfl, rfl⟩ := w.yld i H1 _ x H' p1 ey y
    rw [List.drop_eq_getElem_cons hd] at h1
    simp only [zFor] at h1
    cases ep : tg.put ds[i] ρ1 with
    | none => rw [ep] at h1; exact h1.elim
    | some ρ2 =>
      rw [ep] at h1
      have rd : Rep G F1 ds[i] yv[i] := by
        obtain ⟨v, e1, e2⟩ := r.get ed
        rw [ey] at e1; cases e1
        exact e2.mono le1
      refine tgt_run S1 rd ep hp fun σ2 A2 S2 sub p2 => ?_
      refine turn_run S2 (h1.later (Go.refl.less sub) p2) fun ρ3 F3 H3 σ3 A3 g3 _ S3 h3 => ⟨by omega, by omega, F3, ρ3, A3, le1.trans g3.le, S3, h3⟩
  · left
    have e : i = yv.length := by omega
    subst e
    rw [List.drop_eq_nil_of_le (by omega)] at h1
    exact ⟨w.stop H1 p1, h1.nx S1⟩
end
/-! ### what is walked -/
def AnyW (K : PySem.W.Frag) (x : V) (H1 : Hp) (R : It → Hp → Prop) : Prop := (∃ a xs, x = .ref a ∧ SqL K H1 a xs ∧ R (Itl K a) H1) ∨ (∃ a xs, x = .ref a ∧ SqT K H1 a xs ∧ R (Itt K a) H1) ∨ ∃ z, x = .str z ∧ R (Its z) H1
def iAny (K : PySem.W.Frag) (tl : TE) : TI := fun σ H R => tl σ H fun x H1 => AnyW K x H1 R
section
variable {X : Cx} {tg l : Expr} {tl : TE}
theorem pi_any (hl : PE X l tl) : PI X tg l (iAny X.K tl) := by
  constructor
  intro pins s σ H R I h
  refine thn (hl.run pins s σ H _ I h) ?_
  rintro v s1 ⟨x, H1, I1, r1, ⟨a, xs, rfl, hq, q⟩ | ⟨a, xs, rfl, hq, q⟩ | ⟨z, rfl, q⟩⟩
  · obtain rfl : v = .ref a := r1
    obtain ⟨its, rv, p, hz⟩ := I1.list hq
    exact wpAny_pyIter_list p.isList (pi_one (tk := s1.toks) I1 _ (turn_list a _) ⟨_, Heap.get?_push_size _ rfl, rfl, rfl⟩ q)
  · obtain rfl : v = .ref a := r1
    obtain ⟨its, rv, p, hz⟩ := I1.tuple hq
    exact wpAny_pyIter_tuple (show s1.heap.IsTuple a its.toArray from p) (pi_one (tk := s1.toks) I1 _ (turn_tuple a _) ⟨_, Heap.get?_push_size _ rfl, rfl, rfl⟩ q)
  · obtain ⟨t, rfl⟩ := r1
    by_cases ha : z.cps.all (· < 128) = true
    · exact wpAny_pyIter_ascii ha (pi_one (tk := s1.toks) I1 _ (turn_str _ z t "str_ascii_iterator" (.inl rfl)) ⟨_, Heap.get?_push_size _ rfl, rfl, rfl⟩ q)
    · exact wpAny_pyIter_wide (by simpa using ha) (pi_one (tk := s1.toks) I1 _ (turn_str _ z t "str_iterator" (.inr rfl)) ⟨_, Heap.get?_push_size _ rfl, rfl, rfl⟩ q)
end
/-- the items of a value -/
def zIt (f : M OD) : M (List D) := fun ρ => (f ρ).bind fun od ρ' => match items od.fz with
  | some ds => .ok ds ρ'
  | none => .stuck
def zForIn (it : M (List D)) (tg : Tgt) (f : SM) : SM := fun ρ => (it ρ).bind fun ds ρ' => zFor tg f ds ρ'
/-- range's items -/
def zRng1 (f : M OD) : M (List D) := fun ρ => (f ρ).bind fun od ρ' => match od with
  | .v (.int n) => if -(2 ^ 62) ≤ n ∧ n < 2 ^ 62 then .ok (rngD 0 n.toNat) ρ' else .stuck
  | _ => .stuck
def zRng2 (f g : M OD) : M (List D) := fun ρ => (f ρ).bind fun od ρ' => (g ρ').bind fun od2 ρ'' => match od, od2 with
  | .v (.int i), .v (.int j) => if -(2 ^ 62) ≤ i ∧ i < 2 ^ 62 ∧ -(2 ^ 62) ≤ j ∧ j < 2 ^ 62 then .ok (rngD i (j - i).toNat) ρ'' else .stuck
  | _, _ => .stuck
section
variable {G : Gx} {W : WX} {pn : List Nat} {D : Ends} {F F' F1 F2 F3 H H' H1 H2 H3 : Hp} {A A' A1 A2 A3 : AS} {ρ ρ' κ : Env} {σ σ' ς : St} {X : Cx} {e : Expr} {st : Stmt} {rest a b : List Stmt} {f g : SM} {pos : Pos} {tgt iter : Expr} {body : List Stmt}
/-- the walk that a value gives -/
theorem any_run {x : Vs.D} {v : V} {ds : List Vs.D} {R : It → Hp → Prop} (le : Le F H) (r : Rep G F x v) (e : items x = some ds)
    (h : ∀ J P yv, Wk J P yv → Reps G F ds yv → (∀ F' H', Le F F' → Le F' H' → P H') → R J H) : AnyW G.K v H R := by
  cases x with
  | lst es =>
    simp only [items] at e; cases e
    simp only [Rep] at r
    obtain ⟨a, vs, rfl, h1, h2⟩ := r
    exact .inl ⟨a, vs, rfl, .of (le _ _ h1), h _ _ _ (wk_list (xs := vs)) h2 fun F' H' l1 l2 => .of ((l1.trans l2) _ _ h1)⟩
  | rol es =>
    simp only [items] at e; cases e
    simp only [Rep] at r
    obtain ⟨a, vs, rfl, h1, h2⟩ := r
    exact .inl ⟨a, vs, rfl, le.sql h1, h _ _ _ (wk_list (xs := vs)) h2 fun F' H' l1 l2 => (l1.trans l2).sql h1⟩
  | tup es =>
    simp only [items] at e; cases e
    simp only [Rep] at r
    obtain ⟨a, vs, rfl, h1, h2⟩ := r
    exact .inr (.inl ⟨a, vs, rfl, le.sqt h1, h _ _ _ (wk_tup (xs := vs)) h2 fun F' H' l1 l2 => (l1.trans l2).sqt h1⟩)
  | str s =>
    simp only [items] at e; cases e
    simp only [Rep] at r
    exact .inr (.inr ⟨s, r, h _ _ _ wk_str reps_str fun _ _ _ _ => trivial⟩)
  | _ => simp [items] at e
theorem z_for {p : Bool} {fi : M OD} {tg : Tgt} (hG : G.K = X.K) (hpo : PassesOwn (model X.prog X.w) X.A X.env X.xe) (hc : X.calm = true) (hi : SX X G W p iter fi) (hg : PG X tgt (tg.t G.K)) (hb : SSs X G W pn body f) (hp : ∀ i ∈ tg.ix, i ∉ pn)
    (hs : ∀ x, foldedSetIterable iter X.env x = pure x := by intro _; rfl) : SS X G W pn (.For tgt iter body [] pos) (zForIn (zIt fi) tg f) := PS.of (ps_for hpo hc (pi_any hi) hg hb hs) fun D σ H h => by
  obtain ⟨F, ρ, A, S, h⟩ := h
  unfold zForIn zIt at h
  rw [← hG]
  refine ⟨F, ρ, A, [], [], S, rfl, ?_⟩
  cases e1 : fi ρ with
  | stuck => rw [e1] at h; exact h
  | exc x ρ' => rw [e1] at h; exact h.exc
  | ok od ρ' =>
    rw [e1] at h
    simp only [Out.bind_ok] at h
    intro F' H' v A' g' S'
    obtain ⟨F2, A2, hr, S2, g2, _⟩ := Stt.frz (p := false) S'
    cases e2 : items od.fz with
    | none => rw [e2] at h; exact h.elim
    | some ds =>
      rw [e2] at h
      simp only [Out.bind_ok] at h
      have h' := h.later ((g'.trans g2).imp fun z => by cases z) .refl
      exact any_run S2.le hr e2 fun J P yv w r pp => walk_run w S2 r pp hp h'
theorem z_forR1 {p : Bool} {e1 : Expr} {q q2 : Pos} {fi : M OD} {tg : Tgt} (hpo : PassesOwn (model X.prog X.w) X.A X.env X.xe) (hc : X.calm = true) (hgl : Gl X "range") (hm : X.mg "range" = none) (ha : PA X [e1] (tCons (TX G W p fi) tNil)) (hg : PG X tgt (tg.t G.K)) (hb : SSs X G W pn body f) (hp : ∀ i ∈ tg.ix, i ∉ pn)
    (hs : ∀ x, foldedSetIterable (.Call (.Name "range" q) [e1] [] q2) X.env x = pure x := by intro _; rfl) (hst : starEach [e1] X.env = [(false, eval e1 X.env)] := by rfl) : SS X G W pn (.For tgt (.Call (.Name "range" q) [e1] [] q2) body [] pos) (zForIn (zRng1 fi) tg f) :=
  PS.of (ps_for hpo hc (pi_range1 hgl hm ha hst) hg hb hs) fun D σ H h => by
  obtain ⟨F, ρ, A, S, h⟩ := h
  unfold zForIn zRng1 at h
  refine ⟨F, ρ, A, [], [], S, rfl, ?_⟩
  cases e1 : fi ρ with
  | stuck => rw [e1] at h; exact h
  | exc x ρ' => rw [e1] at h; exact h.exc
  | ok od ρ' =>
    rw [e1] at h
    simp only [Out.bind_ok] at h
    intro F' H' v A' g' S'
    split at h
    · rename_i n
      split at h
      · rename_i hn
        obtain ⟨hr, S2⟩ := S'.pop_v
        simp only [Rep] at hr
        simp only [Out.bind_ok] at h
        exact ⟨n, by rw [hr], hn.1, hn.2, walk_run wk_rng S2 reps_rng (fun _ _ _ _ => trivial) hp (h.later (g'.imp fun z => by cases z) .refl)⟩
      · exact h.elim
    · exact h.elim
theorem z_forR2 {p p' : Bool} {e1 e2 : Expr} {q q2 : Pos} {fi fj : M OD} {tg : Tgt} (hpo : PassesOwn (model X.prog X.w) X.A X.env X.xe) (hc : X.calm = true) (hgl : Gl X "range") (hm : X.mg "range" = none) (ha : PA X [e1, e2] (tCons (TX G W p fi) (tCons (TX G W p' fj) tNil))) (hg : PG X tgt (tg.t G.K)) (hb : SSs X G W pn body f) (hp : ∀ i ∈ tg.ix, i ∉ pn)
    (hs : ∀ x, foldedSetIterable (.Call (.Name "range" q) [e1, e2] [] q2) X.env x = pure x := by intro _; rfl) (hst : starEach [e1, e2] X.env = [(false, eval e1 X.env), (false, eval e2 X.env)] := by rfl) (hst2 : starEach [e2] X.env = [(false, eval e2 X.env)] := by rfl) : SS X G W pn (.For tgt (.Call (.Name "range" q) [e1, e2] [] q2) body [] pos) (zForIn (zRng2 fi fj) tg f) :=
  PS.of (ps_for hpo hc (pi_range2 hgl hm ha hst hst2) hg hb hs) fun D σ H h => by
  obtain ⟨F, ρ, A, S, h⟩ := h
  unfold zForIn zRng2 at h
  refine ⟨F, ρ, A, [], [], S, rfl, ?_⟩
  cases e1 : fi ρ with
  | stuck => rw [e1] at h; exact h
  | exc x ρ' => rw [e1] at h; exact h.exc
  | ok od ρ' =>
    rw [e1] at h
    simp only [Out.bind_ok] at h
    intro F' H' v A' g' S'
    refine ⟨F', ρ', A', [some od], [some v], S', rfl, ?_⟩
    cases e2 : fj ρ' with
    | stuck => rw [e2] at h; exact h
    | exc x ρ2 =>
      rw [e2] at h
      intro F2 H2 A2 cls d g2 S2 xr
      obtain ⟨A3, S3, sub⟩ := Stt.dropTop (show Stt G F2 H2 (some od :: ρ2) (some v :: σ) A2 from S2)
      exact h F2 H2 σ A3 cls d (((g'.trans g2).imp fun z => by cases z).less sub) .refl S3 xr
    | ok od2 ρ2 =>
      rw [e2] at h
      simp only [Out.bind_ok] at h
      intro F2 H2 v2 A2 g2 S2
      split at h
      · rename_i i j
        split at h
        · rename_i hn
          obtain ⟨hr, S3⟩ := S2.pop_v
          obtain ⟨hr1, S4⟩ := Stt.pop_v (show Stt G F2 H2 (some (.v (.int i)) :: ρ2) (some v :: σ) A2 from S3)
          simp only [Rep] at hr hr1
          simp only [Out.bind_ok] at h
          exact ⟨i, j, by rw [hr, hr1], hn, walk_run wk_rng S4 reps_rng (fun _ _ _ _ => trivial) hp (h.later ((g'.trans g2).imp fun z => by cases z) .refl)⟩
        · exact h.elim
      · exact h.elim
end
end Vs

/-! VsE: defs and their calls. -/
namespace Vs
open PySem L2
/-- what a def does: of its arguments, its value; behind it the slots of its parameters that stand for the caller's things -/
abbrev FnM := List OD → Out OD
def back : List Bool → Env → Env
  | [], _ => []
  | b :: bs, [] => none :: back bs []
  | true :: bs, x :: ρ => x :: back bs ρ
  | false :: bs, _ :: ρ => none :: back bs ρ
def defM (n : Nat) (mask : List Bool) (m : SM) : FnM := fun ods =>
  if ods.length = mask.length then
    match m (ods.map some ++ List.replicate (n - ods.length) none) with
    | .ok (.rt od) ρ' => .ok od (back mask ρ')
    | .ok .nx ρ' => .ok (.v .non) (back mask ρ')
    | .ok _ _ => .stuck
    | .exc x ρ' => .exc x (back mask ρ')
    | .stuck => .stuck
  else .stuck
def pnOf : List Bool → Nat → List Nat
  | [], _ => []
  | true :: bs, i => i :: pnOf bs (i + 1)
  | false :: bs, i => pnOf bs (i + 1)
def spOf (G : Gx) (f : FnM) : Sp := fun vs H Q E => ∃ F ods A, Stt G F H (ods.map some) (vs.map some) A ∧ match f ods with
  | .ok od bk => ∀ F' H' v A', Go false F H A F' H' A' → Stt G F' H' (some od :: bk) (some v :: vs.map some) A' → Q v H'
  | .exc x bk => ∀ F' H' A' cls d, Go false F H A F' H' A' → Stt G F' H' bk (vs.map some) A' → XRep G F' H' x cls d → E cls d H'
  | .stuck => False
section
variable {G : Gx} {W : WX} {pn : List Nat} {F F' F1 F2 F3 H H' H1 H2 H3 : Hp} {A A' A1 A2 A3 : AS} {ρ ρ' κ : Env} {σ σ' ς : St} {X : Cx} {e : Expr}
theorem pnOf_mem : ∀ {mask : List Bool} {k i : Nat}, mask[i]? = some true → k + i ∈ pnOf mask k
  | [], k, i, h => by simp at h
  | true :: bs, k, 0, h => by simp [pnOf]
  | false :: bs, k, 0, h => by simp at h
  | true :: bs, k, i + 1, h => by
    have := pnOf_mem (mask := bs) (k := k + 1) (i := i) (by simpa using h)
    simp only [pnOf, List.mem_cons]
    right
    have e : k + (i + 1) = k + 1 + i := by omega
    rw [e]; exact this
  | false :: bs, k, i + 1, h => by
    have := pnOf_mem (mask := bs) (k := k + 1) (i := i) (by simpa using h)
    simp only [pnOf]
    have e : k + (i + 1) = k + 1 + i := by omega
    rw [e]; exact this
theorem back_run : ∀ {mask : List Bool} {ρ : Env} {σ : St} {vs : List V} {A : AS}, Sl G F H ρ σ A → mask.length = vs.length → (∀ (i : Nat) (v : V), mask[i]? = some true → vs[i]? = some v → σ[i]? = some (some v)) →
    ∃ A', Sl G F H (back mask ρ) (vs.map some) A' ∧ ∀ a, A' a → A a
  | [], ρ, σ, vs, A, h, hl, k => by
    cases vs with
    | nil => exact ⟨fun _ => False, by simp [back, Sl], fun _ z => z.elim⟩
    | cons => simp at hl
  | b :: bs, ρ, σ, vs, A, h, hl, k => by
    cases vs with
    | nil => simp at hl
    | cons v vs =>
      have hl' : bs.length = vs.length := by simpa using hl
      cases ρ with
      | nil =>
        simp only [Sl] at h
        have h' : Sl G F H [] [] A := by simp only [Sl]; exact ⟨trivial, h.2⟩
        have k' : ∀ i v, bs[i]? = some true → vs[i]? = some v → ([] : St)[i]? = some (some v) := fun i u e1 e2 => by
          have := k (i + 1) u (by simpa using e1) (by simpa using e2)
          rw [h.1] at this; simpa using this
        obtain ⟨A', h2, sub⟩ := back_run h' hl' k'
        refine ⟨A', ?_, sub⟩
        cases b <;> (simp only [back, List.map_cons, Sl]; exact ⟨_, _, rfl, h2⟩)
      | cons x ρ =>
        have hσ := h.len
        cases σ with
        | nil => simp at hσ
        | cons y σ =>
          have k' : ∀ i v, bs[i]? = some true → vs[i]? = some v → σ[i]? = some (some v) := fun i u e1 e2 => by
            have := k (i + 1) u (by simpa using e1) (by simpa using e2)
            simpa using this
          cases b with
          | false =>
            have : ∃ A0, Sl G F H ρ σ A0 ∧ ∀ a, A0 a → A a := by
              cases x with
              | none =>
                simp only [Sl] at h
                obtain ⟨x, r, e, h⟩ := h
                injection e with e1 e2; subst e1 e2
                exact ⟨A, h, fun _ z => z⟩
              | some od =>
                simp only [Sl] at h
                obtain ⟨x, r, B1, B2, e, _, h, c⟩ := h
                injection e with e1 e2; subst e1 e2
                exact ⟨B2, h, fun _ z => c.r z⟩
            obtain ⟨A0, h0, s0⟩ := this
            obtain ⟨A', h2, sub⟩ := back_run h0 hl' k'
            refine ⟨A', ?_, fun a z => s0 a (sub a z)⟩
            simp only [back, List.map_cons, Sl]; exact ⟨_, _, rfl, h2⟩
          | true =>
            have ey : y = some v := by
              have := k 0 v rfl rfl
              simpa using this
            subst ey
            cases x with
            | none =>
              simp only [Sl] at h
              obtain ⟨x, r, e, h⟩ := h
              injection e with e1 e2; subst e1 e2
              obtain ⟨A', h2, sub⟩ := back_run h hl' k'
              refine ⟨A', ?_, sub⟩
              simp only [back, List.map_cons, Sl]; exact ⟨_, _, rfl, h2⟩
            | some od =>
              simp only [Sl] at h
              obtain ⟨x, r, B1, B2, e, ho, h, c⟩ := h
              injection e with e1 e2; injection e1 with e1; subst e1 e2
              obtain ⟨A', h2, sub⟩ := back_run h hl' k'
              refine ⟨fun a => B1 a ∨ A' a, ?_, fun a z => z.elim (fun b => c.l b) fun b => c.r (sub a b)⟩
              simp only [back, List.map_cons, Sl]
              exact ⟨_, _, B1, A', rfl, ho, h2, .mk' _ _ fun a b1 b2 => c.2 a b1 (sub a b2)⟩
theorem Sl.nones : ∀ {n : Nat}, Sl G F H (List.replicate n none) (List.replicate n none) fun _ => False
  | 0 => by simp [Sl]
  | n + 1 => by simp only [List.replicate_succ, Sl]; exact ⟨_, _, rfl, Sl.nones⟩
/-- THE RULE for a def -/
theorem def_ok {P : Program} {w : World} {K : PySem.W.Frag} {mg : Str → Option Value} {base : Heap} {x qual : Str} {st : Stmt} {f : Addr} {fd : FuncData} {N ps : List Str} {k : Nat} {mask : List Bool} {m : SM} (Fn : Fun K x qual st f fd) (S : FnScope N ps (defScope st))
    (hm : mask.length = ps.length)
    (hb : ∀ (cdv : Value) (A : Around) (outer : List PySem.Env) (s : Shared) (H : Hp) (E : XK), Room k (A.deeper (PyProof.Rows.envOfC qual (defScope st) s.heap.objs.size f cdv)) →
      SSs (cxOf (L2.CX P w) P w K mg base N qual (defScope st) f cdv A outer s H E) G (fun cls d _ H => E cls d H) (pnOf mask 0) (defBody st) m) :
    FnOk P w K mg base (L2.CX P w) (k + 1) f fd ps (spOf G (defM N.length mask m)) := by
  refine Fn.okX S (fun vs H Q E h => ?_) fun cdv A outer s H vs Q E hr h => ?_
  · obtain ⟨F, ods, A, S1, h⟩ := h
    have hl := S1.sl.len
    simp only [List.length_map] at hl
    unfold defM at h
    by_cases hlo : ods.length = mask.length
    · omega
    · rw [if_neg hlo] at h; exact h.elim
  · obtain ⟨F, ods, A0, S1, h⟩ := h
    have hl := S1.sl.len
    simp only [List.length_map] at hl
    unfold defM at h
    by_cases hlo : ods.length = mask.length
    · rw [if_pos hlo] at h
      refine ⟨_, hb cdv A outer s H E hr, ?_⟩
      have hst : L2.start N vs = vs.map some ++ List.replicate (N.length - ods.length) none := by unfold L2.start; rw [hl]
      have SJ : Stt G F H (ods.map some ++ List.replicate (N.length - ods.length) none) (L2.start N vs) A0 := by
        rw [hst]
        exact ⟨S1.le, S1.sl.join Sl.nones (.nil_r fun _ z => z), S1.fr⟩
      have pinv : ∀ {σ' : St}, Pin (pnOf mask 0) (L2.start N vs) σ' → ∀ i v, mask[i]? = some true → vs[i]? = some v → σ'[i]? = some (some v) := fun {σ'} p i v e1 e2 => by
        have := p i (by have := pnOf_mem (k := 0) e1; simpa using this)
        rw [this, hst, List.getElem?_append_left (by simpa using (List.getElem?_eq_some_iff.mp e2).1), List.getElem?_map, e2]
        rfl
      have hml : mask.length = vs.length := by omega
      refine ⟨F, _, A0, SJ, ?_⟩
      cases eq : m (ods.map some ++ List.replicate (N.length - ods.length) none) with
      | stuck => rw [eq] at h; exact h.elim
      | exc x ρ' =>
        rw [eq] at h
        intro F' H' σ' A' cls d g p S' xr
        obtain ⟨A2, h3, sub⟩ := back_run S'.sl hml (pinv p)
        exact h F' H' A2 cls d (g.less sub) ⟨S'.le, h3, fun a z => S'.fr a (sub a z)⟩ xr
      | ok fl ρ' =>
       rw [eq] at h
       cases fl with
       | bk => exact h.elim
       | ct => exact h.elim
       | rt od =>
        intro F' H' σ' A' g p v S'
        obtain ⟨B, A1, h1, S2, c, hB⟩ := S'.pop
        obtain ⟨A2, h3, sub⟩ := back_run S2.sl hml (pinv p)
        refine h F' H' v (fun a => B a ∨ A2 a) (g.less fun a z => z.elim (fun b => c.l b) fun b => c.r (sub a b)) ⟨S2.le, ?_, fun a z => z.elim (hB a) fun b => S2.fr a (sub a b)⟩
        simp only [Sl]
        exact ⟨_, _, B, A2, rfl, h1, h3, .mk' _ _ fun a b1 b2 => c.2 a b1 (sub a b2)⟩
       | nx =>
        intro F' H' σ' A' g p S'
        obtain ⟨A2, h3, sub⟩ := back_run S'.sl hml (pinv p)
        exact h F' H' .non A2 (g.less sub) (Stt.push_v ⟨S'.le, h3, fun a z => S'.fr a (sub a z)⟩ (by simp only [Rep]))
    · rw [if_neg hlo] at h; exact h.elim
end
/-! ### calls -/
def takeAll : List DV → Env → Option (List OD × Env)
  | [], ρ => some ([], ρ)
  | .own od :: ds, ρ => (takeAll ds ρ).map fun r => (.v od.fz :: r.1, r.2)
  | .plc i :: ds, ρ => match ρ[i]? with
    | some (some od) => (takeAll ds (ρ.set i none)).map fun r => (od :: r.1, r.2)
    | _ => none
def putBack : List DV → Env → Env → Env
  | .plc i :: ds, x :: bk, ρ => putBack ds bk (match ρ[i]? with
    | some none => ρ.set i x
    | _ => ρ)
  | .own _ :: ds, _ :: bk, ρ => putBack ds bk ρ
  | _, _, ρ => ρ
def doCall (f : FnM) (ds : List DV) (ρ : Env) : Out OD := match takeAll ds ρ with
  | some (ods, ρ2) => match f ods with
    | .ok od bk => .ok od (putBack ds bk ρ2)
    | .exc x bk => .exc x (putBack ds bk ρ2)
    | .stuck => .stuck
  | none => .stuck
def mCall (f : FnM) (as : List Opd) : M OD := fun ρ => if okPl ρ as then (evAll as ρ).bind (doCall f) else .stuck
def noPlc : List Opd → Bool
  | [] => true
  | .val _ _ :: as => noPlc as
  | .plc _ :: _ => false
section
variable {G : Gx} {W : WX} {pn : List Nat} {F F' F1 F2 F3 H H' H1 H2 H3 : Hp} {A A' A1 A2 A3 : AS} {ρ ρ' κ : Env} {σ σ' ς : St} {X : Cx} {e : Expr}
theorem Stt.raise {x : Option OD} {v : Option V} {ξ : Env} {τ : St} (hl : τ.length = ξ.length) (S : Stt G F H (x :: (ξ ++ ρ)) (v :: (τ ++ σ)) A) : Stt G F H (ξ ++ x :: ρ) (τ ++ v :: σ) A := by
  obtain ⟨le, sl, fr⟩ := S
  refine ⟨le, ?_, fr⟩
  cases x with
  | none =>
    simp only [Sl] at sl
    obtain ⟨y, r, e, h⟩ := sl
    injection e with e1 e2; subst e1 e2
    obtain ⟨A1, A2, h1, h2, c⟩ := h.app hl
    exact h1.join (by simp only [Sl]; exact ⟨_, _, rfl, h2⟩) c
  | some od =>
    simp only [Sl] at sl
    obtain ⟨y, r, B1, B2, e, ho, h, c0⟩ := sl
    injection e with e1 e2; subst e1 e2
    obtain ⟨A1, A2, h1, h2, c⟩ := h.app hl
    obtain ⟨Y, c3, c4⟩ := c0.symm.assoc c
    exact h1.join (A2 := Y) (by simp only [Sl]; exact ⟨_, _, _, _, rfl, ho, h2, c4.symm⟩) c3
theorem takeAll_len : ∀ {ds : List DV} {ρ : Env} {z : List OD × Env}, takeAll ds ρ = some z → z.1.length = ds.length ∧ z.2.length = ρ.length
  | [], ρ, z, h => by simp only [takeAll] at h; cases h; exact ⟨rfl, rfl⟩
  | .own od :: ds, ρ, z, h => by
    simp only [takeAll] at h
    cases q : takeAll ds ρ with
    | none => rw [q] at h; cases h
    | some y =>
      rw [q] at h; cases h
      have := takeAll_len q
      exact ⟨by simp [this.1], this.2⟩
  | .plc j :: ds, ρ, z, h => by
    simp only [takeAll] at h
    split at h
    · cases q : takeAll ds (ρ.set j none) with
      | none => rw [q] at h; cases h
      | some y =>
        rw [q] at h; cases h
        have := takeAll_len q
        exact ⟨by simp [this.1], by simpa using this.2⟩
    · cases h
theorem take_run : ∀ {ds : List DV} {ods : List OD} {vs : List V} {F : Hp} {A : AS} {ρ ρ2 : Env} {κ : Env} {ς : St}, Stt G F H (ds.map DV.slot ++ (κ ++ ρ)) (vs.map some ++ (ς ++ σ)) A → ς.length = κ.length → Lnk σ ds vs → takeAll ds ρ = some (ods, ρ2) →
    ∃ F' A', Stt G F' H (ods.map some ++ (κ ++ ρ2)) (vs.map some ++ (ς ++ σ)) A' ∧ Go true F H A F' H A'
  | [], ods, vs, F, A, ρ, ρ2, κ, ς, S, hl, l, e => by
    simp only [takeAll] at e; cases e
    simp only [Lnk] at l; subst l
    exact ⟨F, A, S, .refl⟩
  | .own od :: ds, ods, vs, F, A, ρ, ρ2, κ, ς, S, hl, l, e => by
    simp only [Lnk] at l
    obtain ⟨v, r, rfl, l⟩ := l
    simp only [takeAll] at e
    cases q : takeAll ds ρ with
    | none => rw [q] at e; cases e
    | some z =>
      obtain ⟨ods', ρ3⟩ := z
      rw [q] at e; cases e
      obtain ⟨F1, A1, h1, S1, g1, le1⟩ := Stt.frz (p := true) S
      obtain ⟨F2, A2, S2, g2⟩ := take_run S1 hl l q
      refine ⟨F2, A2, S2.push_v (h1.mono g2.le), g1.trans g2⟩
  | .plc i :: ds, ods, vs, F, A, ρ, ρ2, κ, ς, S, hl, l, e => by
    simp only [Lnk] at l
    obtain ⟨v, r, rfl, lv, l⟩ := l
    simp only [takeAll] at e
    split at e
    · rename_i od e0
      cases q : takeAll ds (ρ.set i none) with
      | none => rw [q] at e; cases e
      | some z =>
        obtain ⟨ods', ρ3⟩ := z
        rw [q] at e; cases e
        have S0 : Stt G F H (ds.map DV.slot ++ (κ ++ ρ)) (r.map some ++ (ς ++ σ)) A := S.pop_n
        -- the slot's thing comes to the top, above the operands' slots, then below them
        have hl0 : (r.map some).length = (ds.map DV.slot).length := by simp [l.len]
        have ei : (ds.map DV.slot ++ (κ ++ ρ))[(ds.map DV.slot).length + (κ.length + i)]? = some (some od) := getKap (getKap e0)
        obtain ⟨w, A1, A2, h1, h2, h3, c⟩ := S0.sl.at ei
        rw [getSig hl0, getSig hl, lv] at h1
        cases h1
        rw [setKap, setKap] at h3
        have S1 : Stt G F H (some od :: (ds.map DV.slot ++ (κ ++ ρ.set i none))) (some v :: (r.map some ++ (ς ++ σ))) A := ⟨S0.le, by simp only [Sl]; exact ⟨_, _, _, _, rfl, h2, h3, c⟩, S0.fr⟩
        have S2 := S1.raise hl0
        obtain ⟨F2, A3, S3, g3⟩ := take_run (κ := some od :: κ) (ς := some v :: ς) S2 (by simp [hl]) l q
        have hl2 : (r.map some).length = (ods'.map some).length := by
          have h1 := (takeAll_len q).1
          have h4 := l.len
          simp only [List.length_map]
          simp only at h1
          omega
        exact ⟨F2, A3, S3.swap hl2, g3⟩
    · cases e
theorem put_run : ∀ {ds : List DV} {bk : Env} {vs : List V} {ρ : Env} {A : AS}, Stt G F H (bk ++ (κ ++ ρ)) (vs.map some ++ (ς ++ σ)) A → ς.length = κ.length → bk.length = vs.length → Lnk σ ds vs →
    ∃ A', Stt G F H (κ ++ putBack ds bk ρ) (ς ++ σ) A' ∧ ∀ a, A' a → A a
  | [], bk, vs, ρ, A, S, hl, hb, l => by
    simp only [Lnk] at l; subst l
    cases bk with
    | nil => exact ⟨A, S, fun _ z => z⟩
    | cons => simp at hb
  | d :: ds, [], vs, ρ, A, S, hl, hb, l => by
    cases vs with
    | nil => cases d <;> (simp only [Lnk] at l; obtain ⟨v, r, e, _⟩ := l; cases e)
    | cons => simp at hb
  | .own od :: ds, x :: bk, vs, ρ, A, S, hl, hb, l => by
    simp only [Lnk] at l
    obtain ⟨v, r, rfl, l⟩ := l
    obtain ⟨A1, S1, sub⟩ := Stt.dropTop S
    obtain ⟨A2, S2, sub2⟩ := put_run (bk := bk) (vs := r) S1 hl (by simpa using hb) l
    exact ⟨A2, S2, fun a z => sub a (sub2 a z)⟩
  | .plc i :: ds, x :: bk, vs, ρ, A, S, hl, hb, l => by
    simp only [Lnk] at l
    obtain ⟨v, r, rfl, lv, l⟩ := l
    have hb' : (r.map some).length = bk.length := by simpa using hb.symm
    simp only [putBack]
    split
    · rename_i e0
      cases x with
      | none =>
        have S1 := Stt.pop_n S
        have : ρ.set i none = ρ := by
          apply List.ext_getElem?
          intro j
          by_cases hj : i = j
          · subst hj
            rw [List.getElem?_set_self (List.getElem?_eq_some_iff.mp e0).1]
            exact e0.symm
          · rw [List.getElem?_set_ne hj]
        rw [this]
        exact put_run (bk := bk) (vs := r) S1 hl (by simpa using hb) l
      | some od =>
        obtain ⟨B, A1, h1, S1, c, hB⟩ := Stt.pop S
        have e1 : (bk ++ (κ ++ ρ))[bk.length + (κ.length + i)]? = some none := getKap (getKap e0)
        have e2 : (r.map some ++ (ς ++ σ))[bk.length + (κ.length + i)]? = some (some v) := by rw [getSig hb', getSig hl]; exact lv
        have h4 := Sl.put (ρ := bk ++ (κ ++ ρ)) S1.sl e1 e2 h1 c
        rw [setKap, setKap] at h4
        exact put_run (bk := bk) (vs := r) ⟨S1.le, h4, S.fr⟩ hl (by simpa using hb) l
    · obtain ⟨A1, S1, sub⟩ := Stt.dropTop S
      obtain ⟨A2, S2, sub2⟩ := put_run (bk := bk) (vs := r) S1 hl (by simpa using hb) l
      exact ⟨A2, S2, fun a z => sub a (sub2 a z)⟩
/-- all of them data: nothing is owned -/
def allV : List OD → Prop
  | [] => True
  | .v _ :: r => allV r
  | _ :: _ => False
theorem allV_none : ∀ {ods : List OD} {vs : St} {A : AS}, allV ods → Sl G F H (ods.map some) vs A → ∀ a, ¬ A a
  | [], vs, A, _, h => by simp only [List.map_nil, Sl] at h; exact h.2
  | .v d :: r, vs, A, ha, h => by
    simp only [List.map_cons, Sl, OT] at h
    obtain ⟨v, r', A1, A2, _, ⟨_, h1⟩, h2, c⟩ := h
    intro a z
    rcases (c.1 a).1 z with y | y
    · exact h1 a y
    · exact allV_none (ods := r) ha h2 a y
  | .l _ :: r, _, _, ha, _ => ha.elim
  | .k _ _ :: r, _, _, ha, _ => ha.elim
  | .o _ _ _ :: r, _, _, ha, _ => ha.elim
theorem take_allV : ∀ {as : List Opd} {ds : List DV} {ρ ρ1 : Env} {z : List OD × Env}, noPlc as = true → evAll as ρ = .ok ds ρ1 → ∀ ρ2, takeAll ds ρ2 = some z → allV z.1
  | [], ds, ρ, ρ1, z, _, e, ρ2, t => by
    simp only [evAll] at e; cases e
    simp only [takeAll] at t; cases t
    trivial
  | .plc i :: as, _, _, _, _, h, _, _, _ => by simp [noPlc] at h
  | .val p f :: as, ds, ρ, ρ1, z, h, e, ρ2, t => by
    simp only [evAll, Opd.ev] at e
    cases e1 : f ρ with
    | stuck => rw [e1] at e; cases e
    | exc => rw [e1] at e; cases e
    | ok od ρ3 =>
      rw [e1] at e
      simp only [Out.bind_ok] at e
      cases e2 : evAll as ρ3 with
      | stuck => rw [e2] at e; cases e
      | exc => rw [e2] at e; cases e
      | ok ds' ρ4 =>
        rw [e2] at e; cases e
        simp only [takeAll] at t
        cases q : takeAll ds' ρ2 with
        | none => rw [q] at t; cases t
        | some y =>
          rw [q] at t; cases t
          have := take_allV (as := as) (by simpa [noPlc] using h) e2 ρ2 q
          exact this
/-- what stands behind the call's arguments -/
theorem call_run {p : Bool} {f : FnM} {E : XK} {ds : List DV} {vs : List V} {Q : VK} {F0 H0 : Hp} {A0 : AS} (g0 : Go p F0 H0 A0 F H A)
    (S : Stt G F H (ds.map DV.slot ++ (κ ++ ρ)) (vs.map some ++ (ς ++ σ)) A) (hl : ς.length = κ.length) (l : Lnk σ ds vs) (hv : p = true → ∀ z, takeAll ds ρ = some z → allV z.1)
    (hE : ∀ cls d H, W cls d σ H → E cls d H)
    (h : Pst G W p (doCall f ds ρ) F0 H0 A0 κ ς σ fun od ρ' => ∀ F' H' v A', Go p F0 H0 A0 F' H' A' → Stt G F' H' (some od :: (κ ++ ρ')) (some v :: (ς ++ σ)) A' → Q v H') : spOf G f vs H Q E := by
  unfold doCall at h
  cases t : takeAll ds ρ with
  | none => rw [t] at h; exact h.elim
  | some z =>
    obtain ⟨ods, ρ2⟩ := z
    rw [t] at h
    simp only at h
    obtain ⟨F1, A1, S1, g1⟩ := take_run S hl l t
    have hlo : (vs.map some).length = (ods.map some).length := by
      have := (takeAll_len t).1
      simp only [List.length_map]
      rw [l.len]
      exact this.symm
    obtain ⟨B1, B2, s1, s2, c⟩ := S1.sl.app hlo
    refine ⟨F1, ods, B1, ⟨S1.le, s1, fun a z => S1.fr a (c.l z)⟩, ?_⟩
    -- from the arguments to the whole
    have step : ∀ {F' H' : Hp} {Y : AS}, Go false F1 H B1 F' H' Y → Le F' H' → (∀ a, Y a → F' a = none) → Sl G F' H' (κ ++ ρ2) (ς ++ σ) B2 ∧ (∀ a, Y a → ¬ B2 a) ∧ (∀ a, B2 a → F' a = none) ∧ Go p F0 H0 A0 F' H' (fun a => Y a ∨ B2 a) := by
      intro F' H' Y g le fr
      have kp : ∀ a, B2 a → ∃ o, H a = some o ∧ H' a = some o := fun a z => by
        obtain ⟨o, e⟩ := s2.there a z
        exact ⟨o, e, g.keep a o e fun y => c.2 a y.2 z⟩
      refine ⟨s2.mono g.le fun a z => ?_, fun a y z => ?_, fun a z => ?_, ?_⟩
      · obtain ⟨o, e1, e2⟩ := kp a z
        rw [e1, e2]
      · obtain ⟨o, e1, e2⟩ := kp a z
        rcases g.sub a y with b | b
        · exact c.2 a b z
        · rw [e1] at b; cases b
      · obtain ⟨o, e1, e2⟩ := kp a z
        cases q : F' a with
        | none => rfl
        | some o' =>
          rcases g.nf a o' q with b | b | b
          · rw [S1.fr a (c.r z)] at b; cases b
          · exact (c.2 a b z).elim
          · rw [e1] at b; cases b
      · refine ⟨g0.le.trans (g1.le.trans g.le), fun a o e n => ?_, fun a z => ?_, fun a o z => ?_⟩
        · have e1 : H a = some o := g0.keep a o e n
          refine g.keep a o e1 fun y => ?_
          cases hp : p with
          | true => exact allV_none (hv hp _ t) s1 a y.2
          | false =>
            have : A a := by
              rcases g1.sub a (c.l y.2) with b | b
              · exact b
              · rw [e1] at b; cases b
            rcases g0.sub a this with b | b
            · exact n ⟨hp, b⟩
            · rw [e] at b; cases b
        · exact g0.back (g1.back (z.elim (fun y => (g.sub a y).elim (fun b => .inl (c.l b)) .inr) fun b => .inl (c.r b)))
        · rcases g.nf a o z with b | b | b
          · rcases g1.nf a o b with b | b
            · exact g0.nf a o b
            · exact .inr (g0.back b)
          · exact .inr (g0.back (g1.back (.inl (c.l b))))
          · exact .inr (g0.back (.inr b))
    cases ef : f ods with
    | stuck => rw [ef] at h; exact h.elim
    | ok od bk =>
      rw [ef] at h
      intro F' H' v A' g S'
      obtain ⟨B, A3, h1, S3, c3, hB⟩ := S'.pop
      obtain ⟨q1, q2, q3, q4⟩ := step g S'.le S'.fr
      have hbl : bk.length = vs.length := by have := S3.sl.len; simpa using this.symm
      have S4 : Stt G F' H' (bk ++ (κ ++ ρ2)) (vs.map some ++ (ς ++ σ)) fun a => A3 a ∨ B2 a :=
        ⟨S'.le, S3.sl.join q1 (.mk' _ _ fun a y z => q2 a (c3.r y) z), fun a z => z.elim (fun y => S'.fr a (c3.r y)) (q3 a)⟩
      obtain ⟨A5, S5, sub⟩ := put_run (ds := ds) S4 hl hbl l
      obtain ⟨A6, S6, h6⟩ := S5.push h1 fun a b => ⟨hB a b, fun z => (sub a z).elim (c3.2 a b) (q2 a (c3.l b))⟩
      exact h F' H' v A6 (q4.less fun a z => ((h6 a).1 z).elim (fun b => .inl (c3.l b)) fun z => (sub a z).elim (fun y => .inl (c3.r y)) .inr) S6
    | exc x bk =>
      rw [ef] at h
      intro F' H' A' cls d g S' xr
      obtain ⟨q1, q2, q3, q4⟩ := step g S'.le S'.fr
      have hbl : bk.length = vs.length := by have := S'.sl.len; simpa using this.symm
      have S4 : Stt G F' H' (bk ++ (κ ++ ρ2)) (vs.map some ++ (ς ++ σ)) fun a => A' a ∨ B2 a :=
        ⟨S'.le, S'.sl.join q1 (.mk' _ _ q2), fun a z => z.elim (S'.fr a) (q3 a)⟩
      obtain ⟨A5, S5, sub⟩ := put_run (ds := ds) S4 hl hbl l
      exact hE cls d H' (h F' H' A5 cls d ((q4.imp fun z => by cases z).less sub) S5 xr)
end
section
variable {G : Gx} {W : WX} {X : Cx} {k : Nat} {fa C : Addr} {fd : FuncData} {ps : List Str} {f : FnM} {x m : Str} {p pos apos : Pos} {e o : Expr} {es : List Expr} {as : List Opd} {r : Opd}
/-- the operands, then the call -/
theorem calls_run {σ : St} {H : Hp} {Q : VK} {E : XK} (hE : ∀ cls d H, W cls d σ H → E cls d H) (q : TX G W (pAll as && noPlc as) (mCall f as) σ H Q) : tAll G W as σ H fun vs H1 => spOf G f vs H1 Q E := by
  obtain ⟨F, ρ, A, κ, ς, S, hl, q⟩ := q
  unfold mCall at q
  by_cases ho : okPl ρ as = true
  · rw [if_pos ho] at q
    refine tAll_run S hl (okPl_ok S hl ho) ?_
    cases e1 : evAll as ρ with
    | stuck => rw [e1] at q; exact q
    | exc x ρ' => rw [e1] at q; exact q
    | ok ds ρ' =>
      rw [e1] at q
      intro F1 H1 vs A1 g1 S1 l1
      exact call_run (p := pAll as && noPlc as) (g1.imp fun z => by simp only [Bool.and_eq_true] at z; exact z.1) S1 hl l1 (fun z y hy => take_allV (by simp only [Bool.and_eq_true] at z; exact z.2) e1 ρ' hy) hE q
  · rw [if_neg ho] at q; exact q.elim
theorem sx_call (Fn : FnOk X.prog X.w X.K X.mg X.base (L2.CX X.prog X.w) k fa fd ps (spOf G f)) (hr : Room k X.A) (hg : Gl X x) (hm : X.mg x = some (.ref fa)) (hk : PySem.W.keepIn X.K (.ref fa) = true) (hb : Binds X.K fd ps []) (tk : Takes X W)
    (ha : PA X (e :: es) (tAll G W as)) (hdb : (x == ("__debug__" : Str)) = false := by decide) (he : starEach (e :: es) X.env = (false, eval e X.env) :: starEach es X.env := by rfl) (hpl : (backTo pos (starEach es X.env)).any (·.1) = false := by rfl) :
    SX X G W (pAll as && noPlc as) (.Call (.Name x p) (e :: es) [] pos) (mCall f as) :=
  PE.of (pe_callS Fn hr hg hm hk hb (fun σ => passAt tk σ) ha hdb he hpl) fun σ H Q q => calls_run (fun _ _ _ z => z) q
/-- the receiver is an instance of the class c, and m is no attribute of its own -/
def isIns (c m : Str) (ρ : Env) (d : DV) : Bool :=
  match (match d with | .own od => some od | .plc i => ρ[i]?.join) with
  | some (.o c' fs _) => c' == c && !fs.contains m
  | some (.v (.ins c' fs _)) => c' == c && !fs.contains m
  | _ => false
def mMeth (c m : Str) (f : FnM) (r : Opd) (as : List Opd) : M OD := fun ρ => if okPl ρ (r :: as) then (r.ev ρ).bind fun d ρ1 => if isIns c m ρ1 d then (evAll as ρ1).bind fun ds => doCall f (d :: ds) else .stuck else .stuck
theorem no_lookup {fvs : List (Str × V)} {fs : List Str} (h : fvs.map (·.1) = fs) (hm : fs.contains m = false) : fvs.lookup m = none := by
  subst h
  induction fvs with
  | nil => rfl
  | cons y ys ih =>
    simp only [List.map_cons, List.contains_cons, Bool.or_eq_false_iff] at hm
    obtain ⟨a, b⟩ := y
    have : (m == a) = false := hm.1
    simp only [List.lookup, this]
    exact ih hm.2
theorem isIns_run {F H : Hp} {κ ρ : Env} {ς σ : St} {A : AS} {c : Str} {d : DV} {v : V} (S : Stt G F H (d.slot :: (κ ++ ρ)) (some v :: (ς ++ σ)) A) (hl : ς.length = κ.length) (hv : ∀ i, d = .plc i → σ[i]? = some (some v)) (hC : G.mg c = some (.ref C)) (h : isIns c m ρ d = true) :
    ∃ a dx fs, v = .ref a ∧ H a = some (.ins C dx fs) ∧ fs.lookup m = none := by
  have main : ∀ (od : OD) (B : AS), OT G F H od v B → (match (some od : Option OD) with | some (.o c' fs _) => c' == c && !fs.contains m | some (.v (.ins c' fs _)) => c' == c && !fs.contains m | _ => false) = true → ∃ a dx fs, v = .ref a ∧ H a = some (.ins C dx fs) ∧ fs.lookup m = none := by
    intro od B ho hh
    cases od with
    | o c' fs xs =>
      simp only [Bool.and_eq_true, beq_iff_eq, Bool.not_eq_true'] at hh
      simp only [OT] at ho
      obtain ⟨a, C', dx, fvs, A', rfl, hm', h2, hk, _⟩ := ho
      rw [hh.1, hC] at hm'
      cases hm'
      exact ⟨a, dx, fvs, rfl, h2, no_lookup hk hh.2⟩
    | v dd =>
      cases dd with
      | ins c' fs xs =>
        simp only [Bool.and_eq_true, beq_iff_eq, Bool.not_eq_true'] at hh
        simp only [OT, Rep] at ho
        obtain ⟨⟨a, C', dx, fvs, rfl, hm', h2, hk, _⟩, _⟩ := ho
        rw [hh.1, hC] at hm'
        cases hm'
        exact ⟨a, dx, fvs, rfl, S.le _ _ h2, no_lookup hk hh.2⟩
      | _ => simp at hh
    | _ => simp at hh
  unfold isIns at h
  cases d with
  | own od =>
    obtain ⟨B, A', h1, _⟩ := Stt.pop S
    exact main od B h1 h
  | plc i =>
    simp only at h
    cases q0 : ρ[i]? with
    | none => rw [q0] at h; simp at h
    | some y =>
      cases y with
      | none => rw [q0] at h; simp at h
      | some od =>
        rw [q0] at h
        obtain ⟨w, A1, A2, h1, h2, _⟩ := (Stt.pop_n S).sl.at (getKap (κ := κ) q0)
        rw [getSig hl, hv i rfl] at h1
        cases h1
        exact main od A1 h2 h
/-- the receiver, the operands, the call -/
theorem meths_run {σ : St} {H : Hp} {Q : VK} {E : XK} {c : Str} (hC : G.mg c = some (.ref C)) (hE : ∀ cls d H, W cls d σ H → E cls d H) (q : TX G W (pAll (r :: as) && noPlc (r :: as)) (mMeth c m f r as) σ H Q) :
    tOpd G W r σ H fun x H1 => ∃ a dx fs, x = .ref a ∧ H1 a = some (.ins C dx fs) ∧ fs.lookup m = none ∧ tAll G W as σ H1 fun vs H2 => spOf G f (x :: vs) H2 Q E := by
  obtain ⟨F, ρ, A, κ, ς, S, hl, q⟩ := q
  unfold mMeth at q
  by_cases ho : okPl ρ (r :: as) = true
  · rw [if_pos ho] at q
    have okk := okPl_ok S hl ho
    refine tOpd_run S hl (okk r List.mem_cons_self) ?_
    cases e1 : r.ev ρ with
    | stuck => rw [e1] at q; exact q
    | exc x ρ' => rw [e1] at q; exact q
    | ok d ρ1 =>
      rw [e1] at q
      simp only [Out.bind_ok] at q
      intro F1 H1 v1 A1 g1 S1 l1
      by_cases hi : isIns c m ρ1 d = true
      · rw [if_pos hi] at q
        obtain ⟨a, dx, fs, h1, h2, h3⟩ := isIns_run S1 hl l1 hC hi
        refine ⟨a, dx, fs, h1, h2, h3, ?_⟩
        refine tAll_run (κ := d.slot :: κ) (ς := some v1 :: ς) (ρ := ρ1) S1 (by simp [hl]) (fun b hb => okk b (List.mem_cons_of_mem _ hb)) ?_
        cases e2 : evAll as ρ1 with
        | stuck => rw [e2] at q; exact q
        | exc x ρ2 =>
          rw [e2] at q
          intro F' H' A' cls dd g S' xr
          obtain ⟨A'', S'', sub⟩ := Stt.dropTop (show Stt G F' H' (d.slot :: (κ ++ ρ2)) (some v1 :: (ς ++ σ)) A' from S')
          exact q F' H' A'' cls dd (((g1.trans g).imp (fun z => by cases z)).less sub) S'' xr
        | ok ds ρ2 =>
          rw [e2] at q
          intro F2 H2 vs A2 g2 S2 l2
          have hl2 : (vs.map some).length = (ds.map DV.slot).length := by simp [l2.len]
          have S3 : Stt G F2 H2 ((d :: ds).map DV.slot ++ (κ ++ ρ2)) ((v1 :: vs).map some ++ (ς ++ σ)) A2 := S2.swap hl2
          refine call_run (p := pAll (r :: as) && noPlc (r :: as)) (ds := d :: ds) (vs := v1 :: vs) ((g1.trans g2).imp fun z => ?_) S3 hl ?_ (fun z zz => ?_) hE q
          · simp only [Bool.and_eq_true] at z
            simp only [pAll, Bool.and_eq_true] at z
            simp [z.1.1, z.1.2]
          · cases d with
            | own od => exact ⟨_, _, rfl, l2⟩
            | plc i => exact ⟨_, _, rfl, l1 i rfl, l2⟩
          · simp only [Bool.and_eq_true] at z
            refine take_allV (as := r :: as) (ρ := ρ) (ρ1 := ρ2) z.2 ?_ ρ2 
            simp only [evAll, e1, e2, Out.bind_ok]
      · rw [if_neg hi] at q; exact q.elim
  · rw [if_neg ho] at q; exact q.elim
theorem sx_meth {pl : Sem Bool} {c : Str} (he : SO X G W o r) (hC : G.mg c = some (.ref C)) (cl : Cls X.K C) (hm : Meth X.K C m fa) (Fn : FnOk X.prog X.w X.K X.mg X.base (L2.CX X.prog X.w) k fa fd ps (spOf G f)) (hr : Room k X.A) (hb : Binds X.K fd ps []) (tk : Takes X W) (ha : PA X (e :: es) (tAll G W as))
    (hst : starEach (e :: es) X.env = (false, eval e X.env) :: starEach es X.env := by rfl) (hpl : (backTo pos (starEach es X.env)).any (·.1) = false := by rfl)
    (ht : eval (.Call (.Attribute o m apos) (e :: es) [] pos) X.env = (eval o X.env >>= fun ov => standAt apos.atName >>= fun _ => holding [ov] (getMethod ov m pl) >>= fun z => callWith pos z.1 z.2 (backTo pos (starEach (e :: es) X.env)) (backToKw pos (keywordEach [] X.env))) := by rfl) :
    SX X G W (pAll (r :: as) && noPlc (r :: as)) (.Call (.Attribute o m apos) (e :: es) [] pos) (mMeth c m f r as) := by
  constructor
  intro pins s σ H Q I q
  refine PySem.W.methodCall_KW (pl := pl) (thn (he.run pins s σ H _ I (meths_run hC (fun _ _ _ z => z) q)) ?_) ht
  rintro u s1 ⟨v, H1, I1, rv, a, dx, fs, rfl, ea, l, q1⟩
  obtain rfl : u = Value.ref a := rv
  refine getmeth_ok I1 ea cl hm l (PySem.W.callWith_K (first := [.ref a]) (h₀ := X.base) I.ok.mod.kin hm.kp (thn (ha.run pos pins s1 σ H1 _ I1 q1) ?_) hst hpl)
  rintro us s2 ⟨vs, H2, I2, r2, q2⟩
  exact ⟨I2.kIn, run_fnS (us := .ref a :: us) (vs := .ref a :: vs) Fn hr hb (passAt tk σ) I2 (.cons rfl r2) q2⟩
theorem sx_meth0 {pl : Sem Bool} {c : Str} (he : SO X G W o r) (hC : G.mg c = some (.ref C)) (cl : Cls X.K C) (hm : Meth X.K C m fa) (Fn : FnOk X.prog X.w X.K X.mg X.base (L2.CX X.prog X.w) k fa fd ps (spOf G f)) (hr : Room k X.A) (hb : Binds X.K fd ps []) (tk : Takes X W)
    (ht : eval (.Call (.Attribute o m apos) [] [] pos) X.env = (eval o X.env >>= fun ov => standAt apos.atName >>= fun _ => holding [ov] (getMethod ov m pl) >>= fun z => callWith pos z.1 z.2 (backTo pos (starEach [] X.env)) (backToKw pos (keywordEach [] X.env))) := by rfl) :
    SX X G W (pAll [r] && noPlc [r]) (.Call (.Attribute o m apos) [] [] pos) (mMeth c m f r []) := by
  constructor
  intro pins s σ H Q I q
  refine PySem.W.methodCall_KW (pl := pl) (thn (he.run pins s σ H _ I (meths_run hC (fun _ _ _ z => z) q)) ?_) ht
  rintro u s1 ⟨v, H1, I1, rv, a, dx, fs, rfl, ea, l, q1⟩
  obtain rfl : u = Value.ref a := rv
  exact getmeth_ok I1 ea cl hm l (PySem.W.callWith_K0 (first := [.ref a]) I1.kIn hm.kp (run_fnS (us := [.ref a]) (vs := [.ref a]) Fn hr hb (passAt tk σ) I1 (.cons rfl .nil) q1))
end
end Vs

/-! VsF: the operations. -/
namespace Vs
open PySem L2
/-! ### displays -/
section
variable {G : Gx} {W : WX} {F F' F1 F2 F3 H H' H1 H2 H3 : Hp} {A A' A1 A2 A3 : AS} {ρ ρ' κ : Env} {σ ς : St} {X : Cx} {e : Expr} {es : List Expr} {as : List Opd} {pos : Pos}
theorem Stt.ots : ∀ {ods : List OD} {vs : List V} {A : AS}, Stt G F H (ods.map some ++ ρ) (vs.map some ++ σ) A → vs.length = ods.length → ∃ B A', OTs G F H ods vs B ∧ Stt G F H ρ σ A' ∧ Cut A B A' ∧ ∀ a, B a → F a = none
  | [], vs, A, S, hl => by
    cases vs with
    | nil => exact ⟨fun _ => False, A, by simp [OTs], S, .nil_l fun _ z => z, fun _ z => z.elim⟩
    | cons => simp at hl
  | od :: ods, vs, A, S, hl => by
    cases vs with
    | nil => simp at hl
    | cons v vs =>
      obtain ⟨B, A1, h1, S1, c, hB⟩ := Stt.pop S
      obtain ⟨B2, A2, h2, S2, c2, hB2⟩ := Stt.ots (ods := ods) (vs := vs) S1 (by simpa using hl)
      obtain ⟨Y, c3, c4⟩ := c.assoc' c2
      refine ⟨Y, A2, by simp only [OTs]; exact ⟨_, _, _, _, rfl, h1, h2, c4⟩, S2, c3, fun a z => ((c4.1 a).1 z).elim (hB a) (hB2 a)⟩
theorem ots_v : ∀ {ds : List D} {vs : List V}, Reps G F ds vs → OTs G F H (ds.map .v) vs fun _ => False
  | [], vs, h => by simp only [Reps] at h; subst h; simp [OTs]
  | d :: ds, vs, h => by
    simp only [Reps] at h
    obtain ⟨v, r, rfl, h1, h2⟩ := h
    simp only [List.map_cons, OTs, OT]
    exact ⟨v, r, fun _ => False, fun _ => False, rfl, ⟨h1, fun _ z => z⟩, ots_v h2, .nil_l fun _ z => z⟩
theorem ot_lv {ds : List D} {vs : List V} {p : Addr} (h : Reps G F ds vs) (hp : H p = some (.lst vs)) : OT G F H (.l (ds.map .v)) (.ref p) fun b => b = p := by
  simp only [OT]
  exact ⟨p, vs, fun _ => False, rfl, hp, ots_v h, .nil_r fun _ z => z⟩
/-- a new list of owned things -/
theorem Stt.newL {ods : List OD} {vs : List V} {p : Addr} (S : Stt G F H (ods.map some ++ ρ) (vs.map some ++ σ) A) (hl : vs.length = ods.length) (hp : H p = none) :
    ∃ A', Stt G F (upd H p (.lst vs)) (some (.l ods) :: ρ) (some (.ref p) :: σ) A' ∧ Go true F H A F (upd H p (.lst vs)) A' := by
  obtain ⟨B, A1, h1, S1, c, hB⟩ := S.ots hl
  have n : New F H F (upd H p (.lst vs)) := .own S.le hp
  have hpB : ∀ a, A a → a ≠ p := fun a z e => by
    subst e
    have : ∃ o, H a = some o := ((c.1 a).1 z).elim (fun b => h1.there a b) fun b => S1.sl.there a b
    obtain ⟨o, q⟩ := this
    rw [hp] at q; cases q
  have hkeep : ∀ a, A a → upd H p (.lst vs) a = H a := fun a z => upd_ne (hpB a z)
  have ho : OT G F (upd H p (.lst vs)) (.l ods) (.ref p) fun a => a = p ∨ B a := by
    simp only [OT]
    exact ⟨p, vs, B, rfl, upd_same, h1.mono (.refl _) fun a z => hkeep a (c.l z), fun a => Iff.rfl, fun a z b => hpB a (c.l b) z⟩
  have hF : F p = none := by
    cases q : F p with
    | none => rfl
    | some o => rw [S.le p o q] at hp; cases hp
  obtain ⟨A2, S2, h2⟩ := (S1.new n).push ho fun a z => z.elim (fun e => ⟨e ▸ hF, fun w => hpB a (c.r w) e⟩) fun b => ⟨hB a b, c.2 a b⟩
  refine ⟨A2, S2, n.lf, fun a o q _ => n.lh a o q, fun a z => ?_, fun _ _ q => .inl q⟩
  rcases (h2 a).1 z with (rfl | b) | b
  · exact .inr hp
  · exact .inl (c.l b)
  · exact .inl (c.r b)
/-- all on top of the stack become data -/
theorem Stt.frzs : ∀ {ods : List OD} {vs : List V} {F : Hp} {A : AS}, Stt G F H (ods.map some ++ ρ) (vs.map some ++ σ) A → vs.length = ods.length → ∃ F' A', Reps G F' (OD.fzs ods) vs ∧ Stt G F' H ρ σ A' ∧ Go true F H A F' H A'
  | [], vs, F, A, S, hl => by
    cases vs with
    | nil => exact ⟨F, A, by simp [OD.fzs, Reps], S, .refl⟩
    | cons => simp at hl
  | od :: ods, vs, F, A, S, hl => by
    cases vs with
    | nil => simp at hl
    | cons v vs =>
      obtain ⟨F1, A1, h1, S1, g1, _⟩ := Stt.frz (p := true) S
      obtain ⟨F2, A2, h2, S2, g2⟩ := Stt.frzs (ods := ods) (vs := vs) S1 (by simpa using hl)
      exact ⟨F2, A2, by simp only [OD.fzs]; exact .cons (h1.mono g2.le) h2, S2, g1.trans g2⟩
end
/-- operands taken as they are, then k -/
def mTake (as : List Opd) (k : List OD → Option OD) : M OD := fun ρ => if okPl ρ as then (evAll as ρ).bind fun ds ρ' => match takeAll ds ρ' with
  | some (ods, ρ2) => match k ods with
    | some od => .ok od ρ2
    | none => .stuck
  | none => .stuck else .stuck
def kTup (ods : List OD) : Option OD := if ods.length ≤ sizeLine then some (.v (.tup (OD.fzs ods))) else none
def kLst (ods : List OD) : Option OD := if ods.length ≤ sizeLine then some (.l ((OD.fzs ods).map .v)) else none
def kLstO (ods : List OD) : Option OD := if ods.length ≤ sizeLine then some (.l ods) else none
def mTup (as : List Opd) : M OD := mTake as kTup
def mLst (as : List Opd) : M OD := mTake as kLst
def mLstO (as : List Opd) : M OD := mTake as kLstO
section
variable {G : Gx} {W : WX} {F F' F1 F2 F3 H H' H1 H2 H3 : Hp} {A A' A1 A2 A3 : AS} {ρ ρ' κ : Env} {σ ς : St} {X : Cx} {e : Expr} {es : List Expr} {as : List Opd} {pos : Pos}
theorem take_any {k : List OD → Option OD} {Q : VK} {r : List V → Hp → VK → Prop} (h : TX G W (pAll as) (mTake as k) σ H Q)
    (hr : ∀ F H ρ κ ς A ods vs od, Stt G F H (ods.map some ++ (κ ++ ρ)) (vs.map some ++ (ς ++ σ)) A → vs.length = ods.length → k ods = some od →
      (∀ F' H' v A', Go true F H A F' H' A' → Stt G F' H' (some od :: (κ ++ ρ)) (some v :: (ς ++ σ)) A' → Q v H') → r vs H Q) : tAll G W as σ H fun vs H1 => r vs H1 Q := by
  obtain ⟨F, ρ, A, κ, ς, S, hl, q⟩ := h
  unfold mTake at q
  by_cases ho : okPl ρ as = true
  · rw [if_pos ho] at q
    refine tAll_run S hl (okPl_ok S hl ho) ?_
    cases e1 : evAll as ρ with
    | stuck => rw [e1] at q; exact q
    | exc x ρ' => rw [e1] at q; exact q
    | ok ds ρ' =>
      rw [e1] at q
      simp only [Out.bind_ok] at q
      intro F1 H1 vs A1 g1 S1 l1
      cases e2 : takeAll ds ρ' with
      | none => rw [e2] at q; exact q.elim
      | some z =>
        obtain ⟨ods, ρ2⟩ := z
        rw [e2] at q
        simp only at q
        cases e3 : k ods with
        | none => rw [e3] at q; exact q.elim
        | some od =>
          rw [e3] at q
          obtain ⟨F2, A2, S2, g2⟩ := take_run S1 hl l1 e2
          have hlv : vs.length = ods.length := by have := (takeAll_len e2).1; rw [l1.len]; exact this.symm
          exact hr F2 H1 ρ2 κ ς A2 ods vs od S2 hlv e3 fun F' H' v A' g' S' => q F' H' v A' (((g1.trans g2).trans g').imp fun z => by simp [z]) S'
  · rw [if_neg ho] at q; exact q.elim
theorem sx_tup {x1} (ha : PA X es (tAll G W as)) : SX X G W (pAll as) (.Tuple es x1 pos) (mTup as) := PE.of (pe_tup ha) fun σ H Q q => by
  refine take_any (r := fun vs H1 Q => vs.length ≤ sizeLine ∧ ∀ p, H1 p = none → Q (.ref p) (upd H1 p (.tup vs))) q fun F H ρ κ ς A ods vs od S hl ek h => ?_
  unfold kTup at ek
  split at ek
  · rename_i hz
    cases ek
    refine ⟨by omega, fun p hp => ?_⟩
    obtain ⟨F1, A1, hr, S1, g1⟩ := S.frzs hl
    have n : New F1 H (upd F1 p (.tup vs)) (upd H p (.tup vs)) := .frz S1.le hp
    refine h _ _ _ A1 (g1.trans n.go) ((S1.new n).push_v ?_)
    simp only [Rep]
    exact ⟨p, vs, rfl, .of upd_same, hr.mono n.lf⟩
  · cases ek
theorem sx_lst (ha : PA X es (tAll G W as)) : SX X G W (pAll as) (.List es pos) (mLst as) := PE.of (pe_lst ha) fun σ H Q q => by
  refine take_any (r := fun vs H1 Q => vs.length ≤ sizeLine ∧ ∀ p, H1 p = none → Q (.ref p) (upd H1 p (.lst vs))) q fun F H ρ κ ς A ods vs od S hl ek h => ?_
  unfold kLst at ek
  split at ek
  · rename_i hz
    cases ek
    refine ⟨by omega, fun p hp => ?_⟩
    obtain ⟨F1, A1, hr, S1, g1⟩ := S.frzs hl
    have n : New F1 H F1 (upd H p (.lst vs)) := .own S1.le hp
    have hF : F1 p = none := by
      cases q : F1 p with
      | none => rfl
      | some o => rw [S1.le p o q] at hp; cases hp
    obtain ⟨A2, S2, h2⟩ := (S1.new n).push (ot_lv hr upd_same) fun a z => by
      subst z
      refine ⟨hF, fun w => ?_⟩
      obtain ⟨o, q⟩ := S1.sl.there a w
      rw [hp] at q; cases q
    have gn : Go true F1 H A1 F1 (upd H p (.lst vs)) A2 := ⟨n.lf, fun a o q _ => n.lh a o q, fun a z => ((h2 a).1 z).elim (fun e => .inr (e ▸ hp)) .inl, fun _ _ q => .inl q⟩
    exact h _ _ _ A2 (g1.trans gn) S2
  · cases ek
theorem sx_lstO (ha : PA X es (tAll G W as)) : SX X G W (pAll as) (.List es pos) (mLstO as) := PE.of (pe_lst ha) fun σ H Q q => by
  refine take_any (r := fun vs H1 Q => vs.length ≤ sizeLine ∧ ∀ p, H1 p = none → Q (.ref p) (upd H1 p (.lst vs))) q fun F H ρ κ ς A ods vs od S hl ek h => ?_
  unfold kLstO at ek
  split at ek
  · rename_i hz
    cases ek
    refine ⟨by omega, fun p hp => ?_⟩
    obtain ⟨A2, S2, g2⟩ := S.newL hl hp
    exact h _ _ _ A2 g2 S2
  · cases ek
end
/-! ### what an operation on values does -/
/-- a value without parts -/
def RV1 (r : V → Hp → VK → Prop) : List V → Hp → VK → Prop
  | [x], H, Q => r x H Q
  | _, _, _ => False
def RV2 (r : V → V → Hp → VK → Prop) : List V → Hp → VK → Prop
  | [x, y], H, Q => r x y H Q
  | _, _, _ => False
section
variable {G : Gx} {W : WX} {F F' H H' : Hp} {X : Cx} {e a b : Expr} {es : List Expr} {as : List Opd} {pos p q : Pos} {oa ob : Opd}
/-- a result that is data: the readings of the operands are enough -/
theorem rn_v {r : List V → Hp → VK → Prop} {op : List D → Option D} (h : ∀ F H xs vs z Q, Le F H → RepBs G F H xs vs → op xs = some z → (∀ F' H' u, New F H F' H' → Rep G F' z u → Q u H') → r vs H Q) :
    RN G r (fun xs => (op xs).map .v) := fun F H xs vs z Q le hr ez k => by
  dsimp only at ez
  cases e : op xs with
  | none => rw [e] at ez; cases ez
  | some d =>
    rw [e] at ez
    cases ez
    exact h F H xs vs d Q le hr e fun F' H' u n hu => k F' H' u (fun _ => False) n (by simp only [OT]; exact ⟨hu, fun _ z => z⟩) fun _ z => z.elim
/-- .. where nothing new is made -/
theorem rn_s {r : List V → Hp → VK → Prop} {op : List D → Option D} (h : ∀ F H xs vs z Q, Le F H → RepBs G F H xs vs → op xs = some z → (∀ u, Rep G F z u → Q u H) → r vs H Q) :
    RN G r (fun xs => (op xs).map .v) := rn_v fun F H xs vs z Q le hr ez k => h F H xs vs z Q le hr ez fun u hu => k F H u (.refl le) hu
/-- .. a new list -/
theorem rn_l {r : List V → Hp → VK → Prop} {op : List D → Option (List D)} (h : ∀ F H xs vs z Q, Le F H → RepBs G F H xs vs → op xs = some z → (∀ p us, H p = none → Reps G F z us → Q (.ref p) (upd H p (.lst us))) → r vs H Q) :
    RN G r (fun xs => (op xs).map fun ds => .l (ds.map .v)) := fun F H xs vs z Q le hr ez k => by
  dsimp only at ez
  cases e : op xs with
  | none => rw [e] at ez; cases ez
  | some d =>
    rw [e] at ez
    cases ez
    refine h F H xs vs d Q le hr e fun p us hp hu => k F (upd H p (.lst us)) (.ref p) (fun b => b = p) (.own le hp) (ot_lv hu upd_same) fun a z => ?_
    subst z
    refine ⟨hp, ?_⟩
    cases q : F a with
    | none => rfl
    | some o => rw [le a o q] at hp; cases hp
theorem RN.or {r r' : List V → Hp → VK → Prop} {op op' : List D → Option OD} (h : RN G r op) (h' : RN G r' op') : RN G (fun vs H Q => r vs H Q ∨ r' vs H Q) (fun xs => (op xs).or (op' xs)) := fun F H xs vs z Q le hr ez k => by
  dsimp only at ez
  cases e : op xs with
  | some y =>
    rw [e] at ez
    simp only [Option.some_or] at ez
    cases ez
    exact .inl (h F H xs vs _ Q le hr e k)
  | none =>
    rw [e] at ez
    simp only [Option.none_or] at ez
    exact .inr (h' F H xs vs z Q le hr ez k)
theorem sx_bin {op : Operator} {r : R2} {f : List D → Option OD} (ho : OpR X (binaryOp op) r) (R : RN G (RV2 r) f) (ha : SO X G W a oa) (hb : SO X G W b ob) : SX X G W (pAll [oa, ob]) (.BinOp a op b pos) (mApp f [oa, ob]) :=
  sx_app (pe_op ho ha hb) R fun σ H Q q => q
theorem sx_cmp {op : CmpOp} {r : R2} {f : List D → Option OD} (ho : OpR X (compareOp op) r) (R : RN G (RV2 r) f) (hm : behindInMarks op b = false) (ha : SO X G W a oa) (hb : SO X G W b ob) : SX X G W (pAll [oa, ob]) (.Compare a [op] [b] pos) (mApp f [oa, ob]) :=
  sx_app (pe_cmpR ho ha hb hm) R fun σ H Q q => q
theorem sx_un {op : UnaryOp} {r : V → Hp → VK → Prop} {f : List D → Option OD} (ho : UnR X (unaryOp op) r) (R : RN G (RV1 r) f) (ha : SO X G W a oa) : SX X G W (pAll [oa]) (.UnaryOp op a pos) (mApp f [oa]) :=
  sx_app (pe_un ho ha) R fun σ H Q q => q
theorem sx_ix {r : R2} {f : List D → Option OD} (hr : IxR X r) (R : RN G (RV2 r) f) (hs : PlainIx b) (ha : SO X G W a oa) (hb : SO X G W b ob) : SX X G W (pAll [oa, ob]) (.Subscript a b pos) (mApp f [oa, ob]) :=
  sx_app (pe_ix hr ha hb hs) R fun σ H Q q => q
theorem sx_callB {x : Str} {id : String} {r : List V → Hp → VK → Prop} {f : List D → Option OD} (hc : CallR X (.builtin id) r) (R : RN G r f) (hg : Gl X x) (hm : X.mg x = none) (hv : bootBuiltins x = some (.builtin id)) (ha : PA X (e :: es) (tAll G W as)) (hn : x ≠ "__name__" := by decide) (hdb : (x == ("__debug__" : Str)) = false := by decide)
    (he : starEach (e :: es) X.env = (false, eval e X.env) :: starEach es X.env := by rfl) (hpl : (backTo pos (starEach es X.env)).any (·.1) = false := by rfl) : SX X G W (pAll as) (.Call (.Name x p) (e :: es) [] pos) (mApp f as) :=
  sx_app (pe_callB hc hg hm hv ha hn hdb he hpl) R fun σ H Q q => q
theorem sx_callT {x : Str} {T : String} {r : List V → Hp → VK → Prop} {f : List D → Option OD} (hc : CallR X (.type T) r) (R : RN G r f) (hg : Gl X x) (hm : X.mg x = none) (hv : bootBuiltins x = some (.type T)) (ha : PA X (e :: es) (tAll G W as)) (hn : x ≠ "__name__" := by decide) (hdb : (x == ("__debug__" : Str)) = false := by decide)
    (he : starEach (e :: es) X.env = (false, eval e X.env) :: starEach es X.env := by rfl) (hpl : (backTo pos (starEach es X.env)).any (·.1) = false := by rfl) : SX X G W (pAll as) (.Call (.Name x p) (e :: es) [] pos) (mApp f as) :=
  sx_app (pe_callTy hc hg hm hv ha hn hdb he hpl) R fun σ H Q q => q
theorem pa_nl : PA X [] (tAll G W []) := pa_nil
theorem pa_cs (ha : SO X G W e oa) (hr : PA X es (tAll G W as)) (hs : starEach (e :: es) X.env = (false, eval e X.env) :: starEach es X.env := by rfl) : PA X (e :: es) (tAll G W (oa :: as)) := pa_cons ha hr hs
end
/-! ### ints -/
def dI (g : Int → Int → Int) : List D → Option D
  | [.int i, .int j] => some (.int (g i j))
  | _ => none
def dIB (g : Int → Int → Bool) : List D → Option D
  | [.int i, .int j] => some (.bl (g i j))
  | _ => none
def dIc (C : Int → Int → Prop) [∀ i j, Decidable (C i j)] (g : Int → Int → Int) : List D → Option D
  | [.int i, .int j] => if C i j then some (.int (g i j)) else none
  | _ => none
section
variable {G : Gx}
theorem repB_int {F H : Hp} {i : Int} {v : V} (h : RepB G F H (.int i) v) : v = .int i := by simp only [RepB, Rep] at h; exact h
theorem repB_str {F H : Hp} {i : Str} {v : V} (h : RepB G F H (.str i) v) : v = .str i := by simp only [RepB, Rep] at h; exact h
theorem repB_bl {F H : Hp} {i : Bool} {v : V} (h : RepB G F H (.bl i) v) : v = .bl i := by simp only [RepB, Rep] at h; exact h
theorem repB_non {F H : Hp} {v : V} (h : RepB G F H .non v) : v = .non := by simp only [RepB, Rep] at h; exact h
theorem rn_I {g : Int → Int → Int} : RN G (RV2 (rI0 fun i j => .int (g i j))) (fun xs => (dI g xs).map .v) := rn_s fun F H xs vs z Q le hr ez k => by
  unfold dI at ez
  split at ez
  · rename_i i j
    cases ez
    obtain ⟨v, w, rfl, h1, h2⟩ := hr.two
    exact ⟨i, j, repB_int h1, repB_int h2, k _ (by simp only [Rep])⟩
  · cases ez
theorem rn_IB {g : Int → Int → Bool} : RN G (RV2 (rI0 fun i j => .bl (g i j))) (fun xs => (dIB g xs).map .v) := rn_s fun F H xs vs z Q le hr ez k => by
  unfold dIB at ez
  split at ez
  · rename_i i j
    cases ez
    obtain ⟨v, w, rfl, h1, h2⟩ := hr.two
    exact ⟨i, j, repB_int h1, repB_int h2, k _ (by simp only [Rep])⟩
  · cases ez
theorem rn_Ic {C : Int → Int → Prop} [∀ i j, Decidable (C i j)] {g : Int → Int → Int} : RN G (RV2 (rI C fun i j => .int (g i j))) (fun xs => (dIc C g xs).map .v) := rn_s fun F H xs vs z Q le hr ez k => by
  unfold dIc at ez
  split at ez
  · rename_i i j
    split at ez
    · rename_i hc
      cases ez
      obtain ⟨v, w, rfl, h1, h2⟩ := hr.two
      exact ⟨i, j, repB_int h1, repB_int h2, hc, k _ (by simp only [Rep])⟩
    · cases ez
  · cases ez
end
instance (i j : Int) : Decidable (CMul i j) := by unfold CMul; infer_instance
instance (i j : Int) : Decidable (CDivN i j) := by unfold CDivN; infer_instance
instance (i j : Int) : Decidable (CPow i j) := by unfold CPow; infer_instance
/-! ### + of anything -/
def dAddS : List D → Option D
  | [.str x, .str y] => if x.length + y.length ≤ sizeLine then some (.str (x ++ y)) else none
  | _ => none
def dAddT : List D → Option D
  | [.tup xs, .tup ys] => if xs.length + ys.length ≤ sizeLine then some (.tup (xs ++ ys)) else none
  | _ => none
def dAddL : List D → Option (List D)
  | [.lst xs, .lst ys] => if xs.length + ys.length ≤ sizeLine then some (xs ++ ys) else none
  | _ => none
def rAddS : R2 := fun x y H Q => ∃ i j, x = .str i ∧ y = .str j ∧ i.length + j.length ≤ sizeLine ∧ Q (.str (i ++ j)) H
def opAdd (xs : List D) : Option OD := ((dI (· + ·) xs).map .v).or (((dAddS xs).map .v).or (((dAddL xs).map fun ds => .l (ds.map .v)).or ((dAddT xs).map .v)))
def rAddA (K : PySem.W.Frag) : R2 := fun x y H Q => rI0 (fun i j => .int (i + j)) x y H Q ∨ (rAddS x y H Q ∨ (rCat x y H Q ∨ rCatA K x y H Q))
section
variable {G : Gx} {X : Cx}
theorem Reps.nil_iff {F : Hp} {ds : List D} {vs : List V} (h : Reps G F ds vs) : ds = [] ↔ vs = [] := by
  have := h.len
  cases ds <;> cases vs <;> simp_all
theorem op_addA : OpR X (binaryOp .Add) (rAddA X.K) := op_add.or (op_add_str.or (op_cat.or op_catA))
theorem rn_addA (hG : G.K = X.K) : RN G (RV2 (rAddA X.K)) opAdd := by
  have h1 : RN G (RV2 rAddS) (fun xs => (dAddS xs).map .v) := rn_s fun F H xs vs z Q le hr ez k => by
    unfold dAddS at ez
    split at ez
    · rename_i x y
      split at ez
      · rename_i hc
        cases ez
        obtain ⟨v, w, rfl, h1, h2⟩ := hr.two
        exact ⟨x, y, repB_str h1, repB_str h2, hc, k _ (by simp only [Rep])⟩
      · cases ez
    · cases ez
  have h2 : RN G (RV2 rCat) (fun xs => (dAddL xs).map fun ds => .l (ds.map .v)) := rn_l fun F H xs vs z Q le hr ez k => by
    unfold dAddL at ez
    split at ez
    · rename_i x y
      split at ez
      · rename_i hc
        cases ez
        obtain ⟨v, w, rfl, h1, h2⟩ := hr.two
        simp only [RepB] at h1 h2
        obtain ⟨a, us, rfl, ha, ra⟩ := h1
        obtain ⟨b, ws, rfl, hb, rb⟩ := h2
        exact ⟨a, b, us, ws, rfl, rfl, ha, hb, by rw [ra.len, rb.len]; exact hc, fun p hp => k p _ hp (ra.append rb)⟩
      · cases ez
    · cases ez
  have h3 : RN G (RV2 (rCatA X.K)) (fun xs => (dAddT xs).map .v) := rn_v fun F H xs vs z Q le hr ez k => by
    unfold dAddT at ez
    split at ez
    · rename_i x y
      split at ez
      · rename_i hc
        cases ez
        obtain ⟨v, w, rfl, h1, h2⟩ := hr.two
        simp only [RepB, Rep] at h1 h2
        obtain ⟨a, us, rfl, ha, ra⟩ := h1
        obtain ⟨b, ws, rfl, hb, rb⟩ := h2
        rw [hG] at ha hb
        refine ⟨a, b, us, ws, rfl, rfl, le.sqt ha, le.sqt hb, by rw [ra.len, rb.len]; exact hc, fun z => ?_, fun _ z => ?_, fun _ _ p hp => ?_⟩
        · have : x = [] := ra.nil_iff.2 z
          subst this
          refine k F H (.ref b) (.refl le) ?_
          simp only [Rep, List.nil_append]
          exact ⟨b, ws, rfl, by rw [hG]; exact hb, rb⟩
        · have : y = [] := rb.nil_iff.2 z
          subst this
          refine k F H (.ref a) (.refl le) ?_
          simp only [Rep, List.append_nil]
          exact ⟨a, us, rfl, by rw [hG]; exact ha, ra⟩
        · refine k (upd F p (.tup (us ++ ws))) (upd H p (.tup (us ++ ws))) (.ref p) (.frz le hp) ?_
          simp only [Rep]
          exact ⟨p, _, rfl, .of upd_same, (ra.append rb).mono (New.frz le hp).lf⟩
      · cases ez
    · cases ez
  intro F H xs vs z Q le hr ez k
  have := (rn_I (G := G) (g := (· + ·))).or (h1.or (h2.or h3)) F H xs vs z Q le hr ez k
  match vs, this with
  | [x, y], t => exact t
  | [], t => rcases t with t | t | t | t <;> exact t.elim
  | [_], t => rcases t with t | t | t | t <;> exact t.elim
  | _ :: _ :: _ :: _, t => rcases t with t | t | t | t <;> exact t.elim
end
end Vs

/-! VsG: equality, in, subscripts, built-in functions. -/
namespace Vs
open PySem L2
/-! ### == -/
mutual
def toPy : D → Option PyData
  | .non => some .none
  | .bl b => some (.bool b)
  | .int i => some (.int i)
  | .str s => some (.str s)
  | .tup ds => (toPys ds).map .tuple
  | .lst ds => (toPys ds).map .list
  | .rol ds => (toPys ds).map .list
  | _ => none
def toPys : List D → Option (List PyData)
  | [] => some []
  | d :: ds => (toPy d).bind fun p => (toPys ds).map fun ps => p :: ps
end
section
variable {G : Gx} {F H : Hp} {X : Cx}
mutual
theorem Rep.dp (le : Le F H) : ∀ {d : D} {v : V} {p : PyData}, Rep G F d v → toPy d = some p → Dp G.K H v p
  | .non, v, p, h, e => by simp only [Rep] at h; simp only [toPy] at e; cases e; subst h; exact .non
  | .bl b, v, p, h, e => by simp only [Rep] at h; simp only [toPy] at e; cases e; subst h; exact .bl b
  | .int i, v, p, h, e => by simp only [Rep] at h; simp only [toPy] at e; cases e; subst h; exact .int i
  | .str s, v, p, h, e => by simp only [Rep] at h; simp only [toPy] at e; cases e; subst h; exact .str s
  | .tup ds, v, p, h, e => by
    simp only [Rep] at h; simp only [toPy] at e
    obtain ⟨a, vs, rfl, h1, h2⟩ := h
    cases q : toPys ds with
    | none => rw [q] at e; cases e
    | some ps => rw [q] at e; cases e; exact .tup (le.sqt h1) (Reps.dp le h2 q)
  | .lst ds, v, p, h, e => by
    simp only [Rep] at h; simp only [toPy] at e
    obtain ⟨a, vs, rfl, h1, h2⟩ := h
    cases q : toPys ds with
    | none => rw [q] at e; cases e
    | some ps => rw [q] at e; cases e; exact .lst (.of (le _ _ h1)) (Reps.dp le h2 q)
  | .rol ds, v, p, h, e => by
    simp only [Rep] at h; simp only [toPy] at e
    obtain ⟨a, vs, rfl, h1, h2⟩ := h
    cases q : toPys ds with
    | none => rw [q] at e; cases e
    | some ps => rw [q] at e; cases e; exact .lst (le.sql h1) (Reps.dp le h2 q)
  | .dk _ _, v, p, h, e => by simp only [toPy] at e; cases e
  | .ins _ _ _, v, p, h, e => by simp only [toPy] at e; cases e
theorem Reps.dp (le : Le F H) : ∀ {ds : List D} {vs : List V} {ps : List PyData}, Reps G F ds vs → toPys ds = some ps → DpAll G.K H vs ps
  | [], vs, ps, h, e => by simp only [Reps] at h; simp only [toPys] at e; cases e; subst h; exact .nil
  | d :: ds, vs, ps, h, e => by
    simp only [Reps] at h; simp only [toPys] at e
    obtain ⟨v, r, rfl, h1, h2⟩ := h
    cases q1 : toPy d with
    | none => rw [q1] at e; cases e
    | some p =>
      rw [q1] at e
      simp only [Option.bind_some] at e
      cases q : toPys ds with
      | none => rw [q] at e; cases e
      | some ps' => rw [q] at e; cases e; exact .cons (Rep.dp le h1 q1) (Reps.dp le h2 q)
end
theorem RepB.dp (le : Le F H) {d : D} {v : V} {p : PyData} (h : RepB G F H d v) (e : toPy d = some p) : Dp G.K H v p := by
  cases d with
  | lst ds =>
    simp only [RepB] at h; simp only [toPy] at e
    obtain ⟨a, vs, rfl, h1, h2⟩ := h
    cases q : toPys ds with
    | none => rw [q] at e; cases e
    | some ps => rw [q] at e; cases e; exact .lst (.of h1) (Reps.dp le h2 q)
  | dk _ _ => simp only [toPy] at e; cases e
  | ins _ _ _ => simp only [toPy] at e; cases e
  | _ => exact Rep.dp le (by simpa only [RepB] using h) e
end
def dEq : List D → Option Bool
  | [a, b] => (toPy a).bind fun p => (toPy b).bind fun q => if p.plain && (q.plain && decide (min p.depth q.depth ≤ 60)) then some (PyData.eqv p q) else none
  | _ => none
def rEqP (K : PySem.W.Frag) : R2 := fun x y H Q => ∃ d e, Dp K H x d ∧ Dp K H y e ∧ d.plain = true ∧ e.plain = true ∧ min d.depth e.depth ≤ 60 ∧ Q (.bl (PyData.eqv d e)) H
def rNeP (K : PySem.W.Frag) : R2 := fun x y H Q => ∃ d e, Dp K H x d ∧ Dp K H y e ∧ d.plain = true ∧ e.plain = true ∧ min d.depth e.depth ≤ 60 ∧ Q (.bl (!PyData.eqv d e)) H
theorem op_eqP {X : Cx} (hu : X.A.units + 64 < cLine) : OpR X (compareOp .Eq) (rEqP X.K) := by
  intro pins s σ H x y v u Q I rx ry h
  obtain ⟨d, e, hd, he, sd, se, hm, q⟩ := h
  obtain ⟨as, r1⟩ := Dp.reads I d x v hd rx
  obtain ⟨bs, r2⟩ := Dp.reads I e y u he ry
  exact SeqAt.eq_plain r1 r2 sd se (by omega) ⟨.bl _, H, I, rfl, q⟩
theorem op_neP {X : Cx} (hu : X.A.units + 64 < cLine) : OpR X (compareOp .NotEq) (rNeP X.K) := by
  intro pins s σ H x y v u Q I rx ry h
  obtain ⟨d, e, hd, he, sd, se, hm, q⟩ := h
  obtain ⟨as, r1⟩ := Dp.reads I d x v hd rx
  obtain ⟨bs, r2⟩ := Dp.reads I e y u he ry
  exact SeqAt.ne_plain r1 r2 sd se (by omega) ⟨.bl _, H, I, rfl, q⟩
def opEq (xs : List D) : Option OD := ((dEq xs).map D.bl).map .v
def opNe (xs : List D) : Option OD := ((dEq xs).map fun b => D.bl (!b)).map .v
section
variable {G : Gx} {X : Cx}
theorem dEq_run {F H : Hp} {xs : List D} {vs : List V} {b : Bool} (le : Le F H) (hr : RepBs G F H xs vs) (e : dEq xs = some b) : ∃ v w p q, vs = [v, w] ∧ Dp G.K H v p ∧ Dp G.K H w q ∧ p.plain = true ∧ q.plain = true ∧ min p.depth q.depth ≤ 60 ∧ PyData.eqv p q = b := by
  unfold dEq at e
  split at e
  · rename_i x y
    obtain ⟨v, w, rfl, h1, h2⟩ := hr.two
    cases q1 : toPy x with
    | none => rw [q1] at e; cases e
    | some p =>
      rw [q1] at e
      simp only [Option.bind_some] at e
      cases q2 : toPy y with
      | none => rw [q2] at e; cases e
      | some q =>
        rw [q2] at e
        simp only [Option.bind_some] at e
        split at e
        · rename_i hs
          cases e
          simp only [Bool.and_eq_true, decide_eq_true_eq] at hs
          exact ⟨v, w, p, q, rfl, h1.dp le q1, h2.dp le q2, hs.1, hs.2.1, hs.2.2, rfl⟩
        · cases e
  · cases e
theorem rn_eq (hG : G.K = X.K) : RN G (RV2 (rEqP X.K)) opEq := rn_s fun F H xs vs z Q le hr ez k => by
  cases e : dEq xs with
  | none => rw [e] at ez; cases ez
  | some b =>
    rw [e] at ez; cases ez
    obtain ⟨v, w, p, q, rfl, h1, h2, s1, s2, s3, rfl⟩ := dEq_run le hr e
    rw [hG] at h1 h2
    exact ⟨p, q, h1, h2, s1, s2, s3, k _ (by simp only [Rep])⟩
theorem rn_ne (hG : G.K = X.K) : RN G (RV2 (rNeP X.K)) opNe := rn_s fun F H xs vs z Q le hr ez k => by
  cases e : dEq xs with
  | none => rw [e] at ez; cases ez
  | some b =>
    rw [e] at ez; cases ez
    obtain ⟨v, w, p, q, rfl, h1, h2, s1, s2, s3, rfl⟩ := dEq_run le hr e
    rw [hG] at h1 h2
    exact ⟨p, q, h1, h2, s1, s2, s3, k _ (by simp only [Rep])⟩
end
/-! ### is None -/
def D.isN : D → Bool
  | .non => true
  | _ => false
def dIsN : List D → Option D
  | [x, .non] => some (.bl x.isN)
  | _ => none
def dNotN : List D → Option D
  | [x, .non] => some (.bl (!x.isN))
  | _ => none
section
variable {G : Gx} {F H : Hp}
theorem repB_isN {x : D} {v : V} (h : RepB G F H x v) : decide (v = .non) = x.isN := by
  cases x <;> simp only [RepB, Rep] at h
  · subst h; rfl
  · subst h; rfl
  · subst h; rfl
  · subst h; rfl
  · obtain ⟨a, vs, rfl, _⟩ := h; rfl
  · obtain ⟨a, vs, rfl, _⟩ := h; rfl
  · obtain ⟨a, vs, rfl, _⟩ := h; rfl
  · obtain ⟨a, vs, rfl, _⟩ := h; rfl
  · obtain ⟨a, C, dx, vs, rfl, _⟩ := h; rfl
  · obtain ⟨rfl, _⟩ := h; rfl
theorem rn_isN : RN G (RV2 fun x y H Q => y = .non ∧ Q (.bl (decide (x = .non))) H) (fun xs => (dIsN xs).map .v) := rn_s fun F H xs vs z Q le hr ez k => by
  unfold dIsN at ez
  split at ez
  · rename_i x
    cases ez
    obtain ⟨v, w, rfl, h1, h2⟩ := hr.two
    refine ⟨repB_non h2, ?_⟩
    rw [repB_isN h1]
    exact k _ (by simp only [Rep])
  · cases ez
theorem rn_notN : RN G (RV2 fun x y H Q => y = .non ∧ Q (.bl (!decide (x = .non))) H) (fun xs => (dNotN xs).map .v) := rn_s fun F H xs vs z Q le hr ez k => by
  unfold dNotN at ez
  split at ez
  · rename_i x
    cases ez
    obtain ⟨v, w, rfl, h1, h2⟩ := hr.two
    refine ⟨repB_non h2, ?_⟩
    rw [repB_isN h1]
    exact k _ (by simp only [Rep])
  · cases ez
end
/-! ### in -/
def flat1 : D → Option V
  | .non => some .non
  | .bl b => some (.bl b)
  | .int i => some (.int i)
  | .str s => some (.str s)
  | _ => none
def flats : List D → Option (List V)
  | [] => some []
  | d :: ds => (flat1 d).bind fun v => (flats ds).map fun vs => v :: vs
def keyD : D → Option Key
  | .int i => some (.inl i)
  | .str s => some (.inr s)
  | _ => none
def seqD : D → Option (List D)
  | .lst ds => some ds
  | .rol ds => some ds
  | .tup ds => some ds
  | _ => none
def hasK (ks : List Key) (k : Key) : Bool := ks.any fun j => decide (j = k)
def dIn : List D → Option Bool
  | [.str x, .str z] => some (match x.cps.toList with
    | [c] => decide (c ∈ z.cps.toList)
    | _ => !(Builtin.Str.occurrences z x 0 z.length 1).isEmpty)
  | [x, .dk ks _] => match x with
    | .non => some false
    | _ => (keyD x).map (hasK ks)
  | [x, s] => (seqD s).bind fun ds => (toPy x).bind fun p => (toPys ds).bind fun ps => if p.plain && (PyData.plainAll ps && decide (min (PyData.depthAll ps) p.depth ≤ 60)) then some (ps.any fun y => PyData.eqv y p) else none
  | _ => none
def rInP (K : PySem.W.Frag) (neg : Bool) : R2 := fun x y H Q => ∃ a xs d ds, y = .ref a ∧ (SqL K H a xs ∨ SqT K H a xs) ∧ Dp K H x d ∧ DpAll K H xs ds ∧ d.plain = true ∧ PyData.plainAll ds = true ∧ min (PyData.depthAll ds) d.depth ≤ 60 ∧ Q (.bl (neg ^^ ds.any fun y => PyData.eqv y d)) H
def rInA (K : PySem.W.Frag) (neg : Bool) : R2 := fun x y H Q => rInP K neg x y H Q ∨
  ((∃ c z, x = .str ⟨#[c]⟩ ∧ y = .str z ∧ Q (.bl (neg ^^ decide (c ∈ z.cps.toList))) H) ∨ (∃ i j, x = .str i ∧ y = .str j ∧ Q (.bl (neg ^^ !(Builtin.Str.occurrences j i 0 j.length 1).isEmpty)) H)) ∨
  (∃ a o, y = .ref a ∧ DGet H a x o ∧ Q (.bl (neg ^^ o.isSome)) H) ∨ ∃ a kvs, y = .ref a ∧ x = .non ∧ Rd H a (.dK kvs) ∧ Q (.bl (neg ^^ false)) H
def opIn (neg : Bool) (xs : List D) : Option OD := ((dIn xs).map fun b => D.bl (neg ^^ b)).map .v
section
variable {X : Cx}
theorem op_inP (hu : X.A.units + 64 < cLine) : OpR X (compareOp .In) (rInP X.K false) := by
  intro pins s σ H x y v u Q I rx ry h
  obtain ⟨a, xs, d, ds, rfl, hs, hd, ha, p1, p2, hm, q⟩ := h
  obtain rfl : u = Value.ref a := ry
  obtain ⟨as, r1⟩ := Dp.reads I d x v hd rx
  rcases hs with hs | hs
  · obtain ⟨bs, r2⟩ := Dp.reads I (.list ds) (.ref a) (.ref a) (.lst hs ha) rfl
    exact SeqAt.in_list_data r2 r1 p2 p1 (by omega) ⟨.bl _, H, I, rfl, by simpa using q⟩
  · obtain ⟨bs, r2⟩ := Dp.reads I (.tuple ds) (.ref a) (.ref a) (.tup hs ha) rfl
    exact SeqAt.in_tuple_data r2 r1 p2 p1 (by omega) ⟨.bl _, H, I, rfl, by simpa using q⟩
theorem op_notInP (hu : X.A.units + 64 < cLine) : OpR X (compareOp .NotIn) (rInP X.K true) := by
  intro pins s σ H x y v u Q I rx ry h
  obtain ⟨a, xs, d, ds, rfl, hs, hd, ha, p1, p2, hm, q⟩ := h
  obtain rfl : u = Value.ref a := ry
  obtain ⟨as, r1⟩ := Dp.reads I d x v hd rx
  rcases hs with hs | hs
  · obtain ⟨bs, r2⟩ := Dp.reads I (.list ds) (.ref a) (.ref a) (.lst hs ha) rfl
    exact SeqAt.notIn_list_data r2 r1 p2 p1 (by omega) ⟨.bl _, H, I, rfl, by simpa using q⟩
  · obtain ⟨bs, r2⟩ := Dp.reads I (.tuple ds) (.ref a) (.ref a) (.tup hs ha) rfl
    exact SeqAt.notIn_tuple_data r2 r1 p2 p1 (by omega) ⟨.bl _, H, I, rfl, by simpa using q⟩
theorem op_inA (hu : X.A.units + 64 < cLine) : OpR X (compareOp .In) (rInA X.K false) := by
  intro pins s σ H x y v u Q I rx ry h
  rcases h with h | (⟨c, z, e1, e2, q⟩ | ⟨i, j, e1, e2, q⟩) | ⟨a, o, rfl, g, q⟩ | ⟨a, kvs, rfl, rfl, g, q⟩
  · exact op_inP hu pins s σ H x y v u Q I rx ry h
  · exact op_in_sign pins s σ H x y v u Q I rx ry ⟨c, z, e1, e2, by simpa using q⟩
  · exact op_in_str pins s σ H x y v u Q I rx ry ⟨i, j, e1, e2, by simpa using q⟩
  · obtain rfl : u = Value.ref a := ry
    exact d_in (by omega) I g rx fun s3 I3 => ⟨.bl o.isSome, H, I3, rfl, by simpa using q⟩
  · obtain rfl : u = Value.ref a := ry
    obtain rfl : v = Value.none := rx
    exact d_inNone I g fun s3 I3 => ⟨.bl false, H, I3, rfl, q⟩
theorem op_notInA (hu : X.A.units + 64 < cLine) : OpR X (compareOp .NotIn) (rInA X.K true) := by
  intro pins s σ H x y v u Q I rx ry h
  rcases h with h | (⟨c, z, e1, e2, q⟩ | ⟨i, j, e1, e2, q⟩) | ⟨a, o, rfl, g, q⟩ | ⟨a, kvs, rfl, rfl, g, q⟩
  · exact op_notInP hu pins s σ H x y v u Q I rx ry h
  · exact op_notIn_sign pins s σ H x y v u Q I rx ry ⟨c, z, e1, e2, by simpa using q⟩
  · exact op_notIn_str pins s σ H x y v u Q I rx ry ⟨i, j, e1, e2, by simpa using q⟩
  · obtain rfl : u = Value.ref a := ry
    exact d_notIn (by omega) I g rx fun s3 I3 => ⟨.bl (!o.isSome), H, I3, rfl, by simpa using q⟩
  · obtain rfl : u = Value.ref a := ry
    obtain rfl : v = Value.none := rx
    exact d_notInNone I g fun s3 I3 => ⟨.bl true, H, I3, rfl, q⟩
variable {G : Gx} {F H : Hp}
theorem Rep.flat {d : D} {v w : V} (h : Rep G F d v) (e : flat1 d = some w) : v = w ∧ flatV v = true := by
  cases d <;> simp only [flat1] at e <;> cases e <;> simp only [Rep] at h <;> subst h <;> exact ⟨rfl, rfl⟩
theorem RepB.flat {d : D} {v w : V} (h : RepB G F H d v) (e : flat1 d = some w) : v = w ∧ flatV v = true := by
  cases d <;> simp only [flat1] at e <;> cases e <;> simp only [RepB, Rep] at h <;> subst h <;> exact ⟨rfl, rfl⟩
theorem Reps.flats : ∀ {ds : List D} {vs ws : List V}, Reps G F ds vs → flats ds = some ws → vs = ws ∧ vs.all flatV = true
  | [], vs, ws, h, e => by simp only [Reps] at h; simp only [Vs.flats] at e; cases e; subst h; exact ⟨rfl, rfl⟩
  | d :: ds, vs, ws, h, e => by
    simp only [Reps] at h
    obtain ⟨v, r, rfl, h1, h2⟩ := h
    simp only [Vs.flats] at e
    cases q1 : flat1 d with
    | none => rw [q1] at e; cases e
    | some w =>
      rw [q1] at e
      simp only [Option.bind_some] at e
      cases q2 : Vs.flats ds with
      | none => rw [q2] at e; cases e
      | some ws' =>
        rw [q2] at e; cases e
        obtain ⟨rfl, f1⟩ := h1.flat q1
        obtain ⟨rfl, f2⟩ := Reps.flats h2 q2
        exact ⟨rfl, by simp only [List.all_cons, f1, f2, Bool.and_self]⟩
theorem RepB.seq (le : Le F H) {d : D} {v : V} {ds : List D} (h : RepB G F H d v) (e : seqD d = some ds) : ∃ a vs, v = .ref a ∧ (SqL G.K H a vs ∨ SqT G.K H a vs) ∧ Reps G F ds vs := by
  cases d <;> simp only [seqD] at e <;> cases e <;> simp only [RepB, Rep] at h
  · obtain ⟨a, vs, rfl, h1, h2⟩ := h
    exact ⟨a, vs, rfl, .inr (le.sqt h1), h2⟩
  · obtain ⟨a, vs, rfl, h1, h2⟩ := h
    exact ⟨a, vs, rfl, .inl (.of h1), h2⟩
  · obtain ⟨a, vs, rfl, h1, h2⟩ := h
    exact ⟨a, vs, rfl, .inl (le.sql h1), h2⟩
theorem RepB.key {d : D} {v : V} {k : Key} (h : RepB G F H d v) (e : keyD d = some k) : v = kV k := by
  cases d <;> simp only [keyD] at e <;> cases e <;> simp only [RepB, Rep] at h <;> exact h
theorem valV_has {ks : List Key} {kvs : List (Key × V)} (h : kvs.map (·.1) = ks) (k : Key) : (valV kvs k).isSome = hasK ks k := by
  subst h
  rw [← valV_any k kvs]
  unfold hasK
  rw [List.any_map]
  rfl
theorem rn_in {neg : Bool} (hG : G.K = X.K) : RN G (RV2 (rInA X.K neg)) (opIn neg) := rn_s fun F H xs vs z Q le hr ez k => by
  cases e : dIn xs with
  | none => rw [e] at ez; cases ez
  | some b =>
    rw [e] at ez; cases ez
    have kk := k (.bl (neg ^^ b)) (by simp only [Rep])
    clear k
    unfold dIn at e
    split at e
    · rename_i x z
      obtain ⟨v, w, rfl, h1, h2⟩ := hr.two
      have e1 := repB_str h1
      have e2 := repB_str h2
      subst e1 e2
      refine .inr (.inl ?_)
      injection e with e
      split at e
      · rename_i c hc
        left
        refine ⟨c, z, ?_, rfl, by rw [e]; exact kk⟩
        have : x = ⟨#[c]⟩ := by
          cases x with | mk cps => ?_
          have : cps = #[c] := by
            apply Array.ext'
            simpa using hc
          rw [this]
        rw [this]
      · right
        exact ⟨x, z, rfl, rfl, by rw [e]; exact kk⟩
    · rename_i x ks ds
      obtain ⟨v, w, rfl, h1, h2⟩ := hr.two
      simp only [RepB] at h2
      obtain ⟨a, kvs, rfl, hd, hk, _⟩ := h2
      split at e
      · cases e
        have := repB_non h1
        subst this
        exact .inr (.inr (.inr ⟨a, kvs, rfl, rfl, hd, kk⟩))
      · cases q : keyD x with
        | none => rw [q] at e; cases e
        | some ky =>
          rw [q] at e
          cases e
          have := h1.key q
          subst this
          refine .inr (.inr (.inl ⟨a, valV kvs ky, rfl, .inl ⟨kvs, ky, hd, rfl, rfl⟩, ?_⟩))
          rw [valV_has hk]
          exact kk
    · rename_i x s _ _
      obtain ⟨v, w, rfl, h1, h2⟩ := hr.two
      cases q1 : seqD s with
      | none => rw [q1] at e; cases e
      | some ds =>
        rw [q1] at e
        simp only [Option.bind_some] at e
        cases q2 : toPy x with
        | none => rw [q2] at e; cases e
        | some p =>
          rw [q2] at e
          simp only [Option.bind_some] at e
          cases q3 : toPys ds with
          | none => rw [q3] at e; cases e
          | some ps =>
            rw [q3] at e
            simp only [Option.bind_some] at e
            split at e
            · rename_i hp
              cases e
              simp only [Bool.and_eq_true, decide_eq_true_eq] at hp
              obtain ⟨a, us, rfl, h3, h4⟩ := h2.seq le q1
              rw [hG] at h3
              have d1 := h1.dp le q2
              have d2 := h4.dp le q3
              rw [hG] at d1 d2
              exact .inl ⟨a, us, p, ps, rfl, h3, d1, d2, hp.1, hp.2.1, hp.2.2, kk⟩
            · cases e
    · cases e
end
/-! ### x[i] -/
def dIx : List D → Option D
  | [.str z, .int i] => if z.length ≤ sizeLine then (atI z.cps.toList i).map fun c => .str ⟨#[c]⟩ else none
  | [.dk ks ds, x] => (keyD x).bind fun k => (ks.findIdx? fun j => decide (j = k)).bind fun n => ds[n]?
  | [s, .int i] => (seqD s).bind fun ds => atI ds i
  | _ => none
def opIx (xs : List D) : Option OD := (dIx xs).map .v
def rIxA (K : PySem.W.Frag) : R2 := fun x y H Q => rIx K x y H Q ∨ ∃ a v, x = .ref a ∧ DGet H a y (some v) ∧ Q v H
section
variable {X : Cx} {G : Gx} {F H : Hp}
theorem ix_any (hu : X.A.units + 1 < cLine) : IxR X (rIxA X.K) := IxR.or ix_seq fun value slice pins s σ H x y v u Q I rx ry h hs => by
  obtain ⟨a, z, rfl, g, q⟩ := h
  obtain rfl : v = Value.ref a := rx
  exact PyProof.Rows.tail_any (dict_typeIs I g) PySem.F.slot_dict_getitem.lookup (d_getItem hu I g ry fun w' s3 I3 rw' => ⟨z, H, I3, rw', q⟩) hs
theorem atI_rep {ds : List D} {vs : List V} {i : Int} {d : D} (h : Reps G F ds vs) (e : atI ds i = some d) : ∃ v, atI vs i = some v ∧ Rep G F d v := by
  unfold atI at e ⊢
  rw [h.len]
  cases q : ixN ds.length i with
  | none => rw [q] at e; cases e
  | some j =>
    rw [q] at e
    simp only [Option.bind_some] at e ⊢
    exact h.get e
theorem dk_get {ks : List Key} {ds : List D} {kvs : List (Key × V)} {k : Key} {d : D} (hk : kvs.map (·.1) = ks) (hr : Reps G F ds (kvs.map (·.2))) (e : ((ks.findIdx? fun j => decide (j = k)).bind fun n => ds[n]?) = some d) : ∃ v, valV kvs k = some v ∧ Rep G F d v := by
  induction kvs generalizing ks ds with
  | nil => subst hk; simp at e
  | cons p r ih =>
    subst hk
    simp only [List.map_cons] at hr e
    cases ds with
    | nil => simp [Reps] at hr
    | cons d0 ds =>
      simp only [Reps] at hr
      obtain ⟨v, r', e1, h1, h2⟩ := hr
      injection e1 with e1 e2
      subst e1
      by_cases c : p.1 = k
      · have : (List.findIdx? (fun j => decide (j = k)) (p.1 :: r.map (·.1))) = some 0 := by simp [List.findIdx?_cons, c]
        rw [this] at e
        simp at e
        subst e
        exact ⟨p.2, valV_pos c, h1⟩
      · have : (List.findIdx? (fun j => decide (j = k)) (p.1 :: r.map (·.1))) = (List.findIdx? (fun j => decide (j = k)) (r.map (·.1))).map (· + 1) := by simp [List.findIdx?_cons, c]
        rw [this] at e
        obtain ⟨v, e3, h3⟩ := ih (ds := ds) rfl (by rw [e2]; exact h2) (by
          cases q : List.findIdx? (fun j => decide (j = k)) (r.map (·.1)) with
          | none => rw [q] at e; simp at e
          | some n => rw [q] at e; simpa using e)
        exact ⟨v, by rw [valV_neg c]; exact e3, h3⟩
theorem rn_ix (hG : G.K = X.K) : RN G (RV2 (rIxA X.K)) opIx := rn_s fun F H xs vs z Q le hr ez k => by
  unfold dIx at ez
  split at ez
  · rename_i z i
    split at ez
    · rename_i hz
      obtain ⟨v, w, rfl, h1, h2⟩ := hr.two
      cases q : atI z.cps.toList i with
      | none => rw [q] at ez; cases ez
      | some c =>
        rw [q] at ez; cases ez
        exact .inl (.inr (.inr ⟨z, i, c, repB_str h1, repB_int h2, hz, q, k _ (by simp only [Rep])⟩))
    · cases ez
  · rename_i ks ds x
    obtain ⟨v, w, rfl, h1, h2⟩ := hr.two
    cases q : keyD x with
    | none => rw [q] at ez; cases ez
    | some ky =>
      rw [q] at ez
      simp only [Option.bind_some] at ez
      have := h2.key q
      subst this
      simp only [RepB] at h1
      obtain ⟨a, kvs, rfl, hd, hk, hv⟩ := h1
      obtain ⟨v, e1, h3⟩ := dk_get hk hv ez
      exact .inr ⟨a, v, rfl, .inl ⟨kvs, ky, hd, rfl, e1.symm⟩, k v h3⟩
  · rename_i s i _ _
    obtain ⟨v, w, rfl, h1, h2⟩ := hr.two
    have := repB_int h2
    subst this
    cases q1 : seqD s with
    | none => rw [q1] at ez; cases ez
    | some ds =>
      rw [q1] at ez
      simp only [Option.bind_some] at ez
      obtain ⟨a, us, rfl, h3, h4⟩ := h1.seq le q1
      obtain ⟨y, e1, h5⟩ := atI_rep h4 ez
      rw [hG] at h3
      rcases h3 with h3 | h3
      · exact .inl (.inl ⟨a, us, i, y, rfl, rfl, h3, e1, k y h5⟩)
      · exact .inl (.inr (.inl ⟨a, us, i, y, rfl, rfl, h3, e1, k y h5⟩))
  · cases ez
end
/-! ### built-in functions -/
def dAbs : List D → Option D
  | [.int i] => some (.int (if i < 0 then -i else i))
  | _ => none
def dNeg : List D → Option D
  | [.int i] => some (.int (-i))
  | _ => none
def dLen : List D → Option D
  | [.str z] => if z.length ≤ sizeLine then some (.int z.length) else none
  | [.dk ks _] => some (.int ks.length)
  | [s] => (seqD s).map fun ds => .int ds.length
  | _ => none
def dInt : List D → Option D
  | [.int i] => some (.int i)
  | [.bl b] => some (.int (if b then 1 else 0))
  | [.str a] => if a.length ≤ 640 then (PySem.intText? a).map .int else none
  | _ => none
def dOrd : List D → Option D
  | [.str x] => if x.length = 1 then some (.int (x.cps.getD 0 0 : Nat)) else none
  | _ => none
def dList : List D → Option (List D)
  | [s] => seqD s
  | _ => none
def dTuple : List D → Option D
  | [.lst ds] => some (.tup ds)
  | [.rol ds] => some (.tup ds)
  | [.tup ds] => some (.tup ds)
  | _ => none
def dStr : List D → Option D
  | [.int i] => if i.natAbs.log2 < 1920 then some (.str (toString i)) else none
  | _ => none
section
variable {X : Cx} {G : Gx} {F H : Hp}
theorem rn_abs : RN G (fun xs H Q => ∃ i, xs = [.int i] ∧ Q (.int (if i < 0 then -i else i)) H) (fun xs => (dAbs xs).map .v) := rn_s fun F H xs vs z Q le hr ez k => by
  unfold dAbs at ez
  split at ez
  · cases ez
    obtain ⟨v, rfl, h1⟩ := hr.one
    exact ⟨_, by rw [repB_int h1], k _ (by simp only [Rep])⟩
  · cases ez
theorem rn_neg : RN G (RV1 (rU fun i => .int (-i))) (fun xs => (dNeg xs).map .v) := rn_s fun F H xs vs z Q le hr ez k => by
  unfold dNeg at ez
  split at ez
  · cases ez
    obtain ⟨v, rfl, h1⟩ := hr.one
    exact ⟨_, repB_int h1, k _ (by simp only [Rep])⟩
  · cases ez
/-- len of anything -/
def rLenA (K : PySem.W.Frag) : List V → Hp → VK → Prop := fun xs H Q => (∃ z, xs = [.str z] ∧ z.length ≤ sizeLine ∧ Q (.int z.length) H) ∨ (∃ p ys, xs = [.ref p] ∧ (SqL K H p ys ∨ SqT K H p ys) ∧ Q (.int ys.length) H) ∨ ∃ d kvs, xs = [.ref d] ∧ Rd H d (.dK kvs) ∧ Q (.int kvs.length) H
theorem call_lenA : CallR X (.builtin "len") (rLenA X.K) := by
  intro pins s σ H xs us Q I r h
  rcases h with h | h | h
  · exact call_len_str pins s σ H xs us Q I r h
  · exact call_len_seq pins s σ H xs us Q I r h
  · obtain ⟨a, kvs, rfl, ha, q⟩ := h
    obtain ⟨u, rfl, ru⟩ := vals1 r
    cases ru
    exact d_len I ha fun t s' I' => ⟨.int kvs.length, H, I', ⟨t, rfl⟩, q⟩
theorem rn_len (hG : G.K = X.K) : RN G (rLenA X.K) (fun xs => (dLen xs).map .v) := rn_s fun F H xs vs z Q le hr ez k => by
  unfold dLen at ez
  split at ez
  · rename_i z
    split at ez
    · rename_i hz
      cases ez
      obtain ⟨v, rfl, h1⟩ := hr.one
      exact .inl ⟨z, by rw [repB_str h1], hz, k _ (by simp only [Rep])⟩
    · cases ez
  · cases ez
    obtain ⟨v, rfl, h1⟩ := hr.one
    simp only [RepB] at h1
    obtain ⟨a, kvs, rfl, hd, hk, _⟩ := h1
    refine .inr (.inr ⟨a, kvs, rfl, hd, k _ ?_⟩)
    simp only [Rep]
    rw [← hk, List.length_map]
  · rename_i s _ _
    obtain ⟨v, rfl, h1⟩ := hr.one
    cases q : seqD s with
    | none => rw [q] at ez; cases ez
    | some ds =>
      rw [q] at ez; cases ez
      obtain ⟨a, us, rfl, h3, h4⟩ := h1.seq le q
      rw [hG] at h3
      refine .inr (.inl ⟨a, us, rfl, h3, k _ ?_⟩)
      simp only [Rep]
      rw [h4.len]
  · cases ez
def rIntA : List V → Hp → VK → Prop := fun xs H Q => ((∃ i, xs = [.int i] ∧ Q (.int i) H) ∨ ∃ k, xs = [.bl k] ∧ Q (.int (if k then 1 else 0)) H) ∨ ∃ a n, xs = [.str a] ∧ PySem.intText? a = some n ∧ a.length ≤ 640 ∧ Q (.int n) H
theorem call_intA : CallR X (.type "int") rIntA := by
  intro pins s σ H xs us Q I r h
  rcases h with h | h
  · exact call_int1 pins s σ H xs us Q I r h
  · exact call_int_str pins s σ H xs us Q I r h
theorem rn_int : RN G rIntA (fun xs => (dInt xs).map .v) := rn_s fun F H xs vs z Q le hr ez k => by
  unfold dInt at ez
  split at ez
  · cases ez
    obtain ⟨v, rfl, h1⟩ := hr.one
    exact .inl (.inl ⟨_, by rw [repB_int h1], k _ (by simp only [Rep])⟩)
  · cases ez
    obtain ⟨v, rfl, h1⟩ := hr.one
    exact .inl (.inr ⟨_, by rw [repB_bl h1], k _ (by simp only [Rep])⟩)
  · rename_i a
    split at ez
    · rename_i hz
      obtain ⟨v, rfl, h1⟩ := hr.one
      cases q : PySem.intText? a with
      | none => rw [q] at ez; cases ez
      | some n =>
        rw [q] at ez; cases ez
        exact .inr ⟨a, n, by rw [repB_str h1], q, hz, k _ (by simp only [Rep])⟩
    · cases ez
  · cases ez
theorem rn_ord : RN G (fun xs H Q => ∃ x, xs = [.str x] ∧ x.length = 1 ∧ Q (.int (x.cps.getD 0 0 : Nat)) H) (fun xs => (dOrd xs).map .v) := rn_s fun F H xs vs z Q le hr ez k => by
  unfold dOrd at ez
  split at ez
  · split at ez
    · rename_i hz
      cases ez
      obtain ⟨v, rfl, h1⟩ := hr.one
      exact ⟨_, by rw [repB_str h1], hz, k _ (by simp only [Rep])⟩
    · cases ez
  · cases ez
theorem rn_str : RN G (fun xs H Q => ∃ i, xs = [.int i] ∧ i.natAbs.log2 < 1920 ∧ Q (.str (toString i)) H) (fun xs => (dStr xs).map .v) := rn_s fun F H xs vs z Q le hr ez k => by
  unfold dStr at ez
  split at ez
  · split at ez
    · rename_i hz
      cases ez
      obtain ⟨v, rfl, h1⟩ := hr.one
      exact ⟨_, by rw [repB_int h1], hz, k _ (by simp only [Rep])⟩
    · cases ez
  · cases ez
theorem rn_list (hG : G.K = X.K) : RN G (fun xs H Q => ∃ p ys, xs = [.ref p] ∧ (SqL X.K H p ys ∨ SqT X.K H p ys) ∧ ∀ l, H l = none → Q (.ref l) (upd H l (.lst ys))) (fun xs => (dList xs).map fun ds => .l (ds.map .v)) := rn_l fun F H xs vs z Q le hr ez k => by
  unfold dList at ez
  split at ez
  · obtain ⟨v, rfl, h1⟩ := hr.one
    obtain ⟨a, us, rfl, h3, h4⟩ := h1.seq le ez
    rw [hG] at h3
    exact ⟨a, us, rfl, h3, fun l hl => k l us hl h4⟩
  · cases ez
theorem rn_tuple (hG : G.K = X.K) : RN G (fun xs H Q => ∃ p ys, xs = [.ref p] ∧ ((SqL X.K H p ys ∧ ∀ l, H l = none → Q (.ref l) (upd H l (.tup ys))) ∨ (SqT X.K H p ys ∧ Q (.ref p) H))) (fun xs => (dTuple xs).map .v) := rn_v fun F H xs vs z Q le hr ez k => by
  have mk : ∀ {a : Addr} {us : List V} {ds : List D}, z = .tup ds → Reps G F ds us → ∀ l, H l = none → Q (.ref l) (upd H l (.tup us)) := fun {a us ds} ez h l hl => by
    refine k _ _ _ (New.frz (o := .tup us) le hl) ?_
    subst ez
    simp only [Rep]
    exact ⟨l, us, rfl, .of upd_same, h.mono (New.frz le hl).lf⟩
  unfold dTuple at ez
  split at ez
  · cases ez
    obtain ⟨v, rfl, h1⟩ := hr.one
    simp only [RepB] at h1
    obtain ⟨a, us, rfl, h3, h4⟩ := h1
    exact ⟨a, us, rfl, .inl ⟨.of h3, mk (a := a) rfl h4⟩⟩
  · cases ez
    obtain ⟨v, rfl, h1⟩ := hr.one
    simp only [RepB, Rep] at h1
    obtain ⟨a, us, rfl, h3, h4⟩ := h1
    rw [hG] at h3
    exact ⟨a, us, rfl, .inl ⟨le.sql h3, mk (a := a) rfl h4⟩⟩
  · cases ez
    obtain ⟨v, rfl, h1⟩ := hr.one
    simp only [RepB, Rep] at h1
    obtain ⟨a, us, rfl, h3, h4⟩ := h1
    refine ⟨a, us, rfl, .inr ⟨by rw [hG] at h3; exact le.sqt h3, k F H _ (.refl le) ?_⟩⟩
    simp only [Rep]
    exact ⟨a, us, rfl, h3, h4⟩
  · cases ez
end
/-! ### methods of the built-in types -/
/-- the receiver's kind -/
def kdOf : D → String
  | .str _ => "str"
  | .int _ => "int"
  | .lst _ => "list"
  | .rol _ => "list"
  | .dk _ _ => "dict"
  | _ => ""
def isKd (T : String) (ρ : Env) (d : DV) : Bool := match d with
  | .own od => kdOf od.fz == T
  | .plc i => match ρ[i]?.join with
    | some (.v d) => kdOf d == T
    | some (.l _) => T == "list"
    | some (.k _ _) => T == "dict"
    | _ => false
def mBm (T : String) (op : List D → Option OD) (r : Opd) (as : List Opd) : M OD := fun ρ => if T ≠ "" ∧ okPl ρ (r :: as) = true then (r.ev ρ).bind fun d ρ1 => if isKd T ρ1 d then (evAll as ρ1).bind fun ds ρ2 => match (res ρ2 (d :: ds)).bind op with
    | some z => .ok z ρ2
    | none => .stuck else .stuck else .stuck
/-- as tyV, locked dicts too -/
def tyW (K : PySem.W.Frag) (T : String) (x : V) (H : Hp) : Prop := tyV K T x H ∨ ∃ a kvs, x = .ref a ∧ T = "dict" ∧ Rd H a (.dK kvs)
theorem tyW_is {X : Cx} {pins : List (Addr × Obj)} {σ : St} {H : Hp} {s : Shared} {T : String} {x : V} {v : Value} (I : Inv X pins σ H s) (r : RelV x v) (ty : tyW X.K T x H) :
    s.TypeIs v T ∧ ∀ a, v = .ref a → ∃ ob, s.heap.get? a = some ob ∧ ob.dict = none := by
  rcases ty with ty | ⟨p, kvs, rfl, rfl, h⟩
  · exact tyV_is I r ty
  · cases r
    obtain ⟨_, _, _, _, o, _, _, e, ex, _⟩ := h.ok I.hok
    refine ⟨⟨o, e, ex.1⟩, fun a e2 => ?_⟩
    cases e2
    exact ⟨o, e, ex.2.1⟩
def tBW0 (K : PySem.W.Frag) (T : String) (r : V → List V → Hp → VK → Prop) (to : TE) : TE := fun σ H Q => to σ H fun x H1 => tyW K T x H1 ∧ r x [] H1 Q
def tBW (K : PySem.W.Frag) (T : String) (r : V → List V → Hp → VK → Prop) (to : TE) (t : TA) : TE := fun σ H Q => to σ H fun x H1 => tyW K T x H1 ∧ t σ H1 fun xs H2 => r x xs H2 Q
section
variable {X : Cx} {o e : Expr} {es : List Expr} {to : TE} {t : TA} {name : Str} {apos cpos : Pos} {T id : String} {r : V → List V → Hp → VK → Prop}
theorem pe_bmW0 (pa : PlainAttrs T) (slot : Slot T name id) (hty : typeOf (.builtin id) = pure (.type "method_descriptor")) (hm : MtR X id r) (ho : PE X o to)
    (hbase : attributeBase o name X.env (eval o X.env) = eval o X.env := by rfl) (hline : (apos.endLine == cpos.line) = true := by rfl) : PE X (.Call (.Attribute o name apos) [] [] cpos) (tBW0 X.K T r to) := by
  refine ⟨fun pins s σ H Q I h => wpAny_Call_method0_late hbase hline (PySem.wpAny_mono (ho.run pins s σ H _ I h) (fun v s1 z => ?_) fun _ _ z => z)⟩
  obtain ⟨x, H1, I1, r1, ty, q1⟩ := z
  obtain ⟨h1, h2⟩ := tyW_is I1 r1 ty
  exact ⟨T, id, pa, slot, hty, h1, h2, Calls.callWith_builtin rfl (PySem.evalArgs_none (hm pins s1 σ H1 x [] v [] Q I1 r1 .nil q1))⟩
theorem pe_bmW (pa : PlainAttrs T) (slot : Slot T name id) (hty : typeOf (.builtin id) = pure (.type "method_descriptor")) (hm : MtR X id r) (ho : PE X o to) (ha : PA X (e :: es) t)
    (hbase : attributeBase o name X.env (eval o X.env) = eval o X.env := by rfl)
    (hfew : ((backTo cpos (starEach (e :: es) X.env)).all (fun x => !x.1) && (backToKw cpos (keywordEach [] X.env)).all (fun x => x.1.isSome)
      && decide ((e :: es).length + ([] : List Keyword).length + (if ([] : List Keyword).isEmpty then 0 else 1) < 30)) = true := by rfl)
    (hline : (apos.endLine == cpos.line) = true := by rfl) (hs : starEach (e :: es) X.env = (false, eval e X.env) :: starEach es X.env := by rfl) (hplain : (backTo cpos (starEach es X.env)).any (·.1) = false := by rfl) :
    PE X (.Call (.Attribute o name apos) (e :: es) [] cpos) (tBW X.K T r to t) := by
  refine ⟨fun pins s σ H Q I h => wpAny_Call_method_late hbase hfew hline rfl (PySem.wpAny_mono (ho.run pins s σ H _ I h) (fun v s1 z => ?_) fun _ _ z => z)⟩
  obtain ⟨x, H1, I1, r1, ty, q1⟩ := z
  obtain ⟨h1, h2⟩ := tyW_is I1 r1 ty
  refine ⟨T, id, pa, slot, hty, h1, h2, ?_⟩
  have hA := ha.run cpos pins s1 σ H1 _ I1 q1
  rw [hs] at hA ⊢
  refine Calls.callWith_builtin (by show (false || (backTo cpos (starEach es X.env)).any (·.1)) = false; rw [hplain] <;> rfl) (Calls.evalArgs_plain ?_)
  exact PySem.wpAny_mono hA (fun us s2 z => by obtain ⟨vs, H2, I2, r2, q2⟩ := z; exact hm pins s2 σ H2 x vs v us Q I2 r1 r2 q2) fun _ _ z => z
end
section
variable {G : Gx} {W : WX} {F F' F1 F2 F3 H H' H1 H2 H3 : Hp} {A A' A1 A2 A3 : AS} {ρ ρ' κ : Env} {σ ς : St} {X : Cx} {T : String}
theorem kd_ty {d : D} {v : V} (le : Le F H) (hG : G.K = X.K) (hT : T ≠ "") (h : Rep G F d v) (e : kdOf d = T) : tyW X.K T v H := by
  cases d <;> simp only [kdOf] at e <;> simp only [Rep] at h
  · exact absurd e.symm hT
  · exact absurd e.symm hT
  · subst h e; exact .inl rfl
  · subst h e; exact .inl rfl
  · exact absurd e.symm hT
  · obtain ⟨a, vs, rfl, h1, _⟩ := h
    subst e
    exact .inl (.inl ⟨rfl, vs, .of (le _ _ h1)⟩)
  · obtain ⟨a, vs, rfl, h1, _⟩ := h
    subst e
    rw [hG] at h1
    exact .inl (.inl ⟨rfl, vs, le.sql h1⟩)
  · obtain ⟨a, kvs, rfl, h1, _⟩ := h
    subst e
    exact .inr ⟨a, kvs, rfl, rfl, le.rd h1⟩
  · exact absurd e.symm hT
  · exact absurd e.symm hT
theorem isKd_run {d : DV} {v : V} (hG : G.K = X.K) (hT : T ≠ "") (S : Stt G F H (d.slot :: (κ ++ ρ)) (some v :: (ς ++ σ)) A) (hl : ς.length = κ.length) (hv : ∀ i, d = .plc i → σ[i]? = some (some v)) (h : isKd T ρ d = true) : tyW X.K T v H := by
  cases d with
  | own od =>
    obtain ⟨F', A', hr, S', _, _⟩ := Stt.frz (p := true) (show Stt G F H (some od :: (κ ++ ρ)) (some v :: (ς ++ σ)) A from S)
    exact kd_ty S'.le hG hT hr (by simpa [isKd] using h)
  | plc i =>
    unfold isKd at h
    simp only at h
    cases q0 : ρ[i]? with
    | none => rw [q0] at h; simp at h
    | some y =>
      cases y with
      | none => rw [q0] at h; simp at h
      | some od =>
        rw [q0] at h
        obtain ⟨w, A1, A2, h1, h2, _⟩ := (Stt.pop_n S).sl.at (getKap (κ := κ) q0)
        rw [getSig hl, hv i rfl] at h1
        cases h1
        simp only [Option.join_some] at h
        cases od with
        | v dd =>
          simp only [OT] at h2
          exact kd_ty S.le hG hT h2.1 (by simpa using h)
        | l xs =>
          simp only [OT] at h2
          obtain ⟨a, vs, A', rfl, h3, _⟩ := h2
          have : T = "list" := by simpa using h
          subst this
          exact .inl (.inl ⟨rfl, vs, .of h3⟩)
        | k ks xs =>
          simp only [OT] at h2
          obtain ⟨a, kvs, A', rfl, h3, _⟩ := h2
          have : T = "dict" := by simpa using h
          subst this
          exact .inr ⟨a, kvs, rfl, rfl, .of h3⟩
        | o _ _ _ => simp at h
theorem bms_run {op : List D → Option OD} {r : Opd} {as : List Opd} {rr : V → List V → Hp → VK → Prop} {Q : VK} (hG : G.K = X.K) (R : RN G (fun vs H Q => match vs with | x :: xs => rr x xs H Q | [] => False) op) (q : TX G W (pAll (r :: as)) (mBm T op r as) σ H Q) :
    tOpd G W r σ H fun x H1 => tyW X.K T x H1 ∧ tAll G W as σ H1 fun xs H2 => rr x xs H2 Q := by
  obtain ⟨F, ρ, A, κ, ς, S, hl, q⟩ := q
  unfold mBm at q
  by_cases ho : T ≠ "" ∧ okPl ρ (r :: as) = true
  · rw [if_pos ho] at q
    have okk := okPl_ok S hl ho.2
    refine tOpd_run S hl (okk r List.mem_cons_self) ?_
    cases e1 : r.ev ρ with
    | stuck => rw [e1] at q; exact q
    | exc x ρ' => rw [e1] at q; exact q
    | ok d ρ1 =>
      rw [e1] at q
      simp only [Out.bind_ok] at q
      intro F1 H1 v1 A1 g1 S1 l1
      by_cases hi : isKd T ρ1 d = true
      · rw [if_pos hi] at q
        refine ⟨isKd_run hG ho.1 S1 hl l1 hi, ?_⟩
        refine tAll_run (κ := d.slot :: κ) (ς := some v1 :: ς) (ρ := ρ1) S1 (by simp [hl]) (fun b hb => okk b (List.mem_cons_of_mem _ hb)) ?_
        cases e2 : evAll as ρ1 with
        | stuck => rw [e2] at q; exact q
        | exc x ρ2 =>
          rw [e2] at q
          intro F' H' A' cls dd g S' xr
          obtain ⟨A'', S'', sub⟩ := Stt.dropTop (show Stt G F' H' (d.slot :: (κ ++ ρ2)) (some v1 :: (ς ++ σ)) A' from S')
          exact q F' H' A'' cls dd (((g1.trans g).imp (fun z => by cases z)).less sub) S'' xr
        | ok ds ρ2 =>
          rw [e2] at q
          simp only [Out.bind_ok] at q
          intro F2 H2 vs A2 g2 S2 l2
          have hl2 : (vs.map some).length = (ds.map DV.slot).length := by simp [l2.len]
          have S3 : Stt G F2 H2 ((d :: ds).map DV.slot ++ (κ ++ ρ2)) ((v1 :: vs).map some ++ (ς ++ σ)) A2 := S2.swap hl2
          have l3 : Lnk σ (d :: ds) (v1 :: vs) := by
            cases d with
            | own od => exact ⟨_, _, rfl, l2⟩
            | plc i => exact ⟨_, _, rfl, l1 i rfl, l2⟩
          cases e3 : res ρ2 (d :: ds) with
          | none => rw [e3] at q; exact q.elim
          | some xs =>
            rw [e3] at q
            simp only [Option.bind_some] at q
            cases e4 : op xs with
            | none => rw [e4] at q; exact q.elim
            | some z =>
              rw [e4] at q
              exact app_done (p := pAll (r :: as)) (vs := v1 :: vs) R ((g1.trans g2).imp fun z => by simpa [pAll] using z) S3 hl l3 e3 e4 q
      · rw [if_neg hi] at q; exact q.elim
  · rw [if_neg ho] at q; exact q.elim
variable {o e : Expr} {es : List Expr} {as : List Opd} {name : Str} {apos cpos : Pos} {id : String} {rr : V → List V → Hp → VK → Prop} {op : List D → Option OD} {r : Opd}
theorem sx_bm (hG : G.K = X.K) (pa : PlainAttrs T) (slot : Slot T name id) (hty : typeOf (.builtin id) = pure (.type "method_descriptor")) (hm : MtR X id rr) (R : RN G (fun vs H Q => match vs with | x :: xs => rr x xs H Q | [] => False) op) (ho : SO X G W o r) (ha : PA X (e :: es) (tAll G W as))
    (hbase : attributeBase o name X.env (eval o X.env) = eval o X.env := by rfl)
    (hfew : ((backTo cpos (starEach (e :: es) X.env)).all (fun x => !x.1) && (backToKw cpos (keywordEach [] X.env)).all (fun x => x.1.isSome)
      && decide ((e :: es).length + ([] : List Keyword).length + (if ([] : List Keyword).isEmpty then 0 else 1) < 30)) = true := by rfl)
    (hline : (apos.endLine == cpos.line) = true := by rfl) (hs : starEach (e :: es) X.env = (false, eval e X.env) :: starEach es X.env := by rfl) (hplain : (backTo cpos (starEach es X.env)).any (·.1) = false := by rfl) :
    SX X G W (pAll (r :: as)) (.Call (.Attribute o name apos) (e :: es) [] cpos) (mBm T op r as) := PE.of (pe_bmW pa slot hty hm ho ha hbase hfew hline hs hplain) fun σ H Q q => bms_run hG R q
theorem sx_bm0 (hG : G.K = X.K) (pa : PlainAttrs T) (slot : Slot T name id) (hty : typeOf (.builtin id) = pure (.type "method_descriptor")) (hm : MtR X id rr) (R : RN G (fun vs H Q => match vs with | x :: xs => rr x xs H Q | [] => False) op) (ho : SO X G W o r)
    (hbase : attributeBase o name X.env (eval o X.env) = eval o X.env := by rfl) (hline : (apos.endLine == cpos.line) = true := by rfl) :
    SX X G W (pAll [r]) (.Call (.Attribute o name apos) [] [] cpos) (mBm T op r []) := PE.of (pe_bmW0 pa slot hty hm ho hbase hline) fun σ H Q q => bms_run hG R q
end
/-! ### texts -/
def textsD : List D → Option (List Str)
  | [] => some []
  | .str x :: r => (textsD r).map fun xs => x :: xs
  | _ :: _ => none
def dJoin : List D → Option D
  | [.str a, s] => (seqD s).bind fun ds => (textsD ds).bind fun ys => if (ys.map (·.length)).sum + ys.length * a.length ≤ 16777216 then some (.str (Txt.join a ys)) else none
  | _ => none
section
variable {X : Cx} {G : Gx} {F H : Hp}
theorem Reps.texts : ∀ {ds : List D} {vs : List V} {ys : List Str}, Reps G F ds vs → textsD ds = some ys → vs = ys.map V.str
  | [], vs, ys, h, e => by simp only [Reps] at h; simp only [textsD] at e; cases e; subst h; rfl
  | d :: ds, vs, ys, h, e => by
    simp only [Reps] at h
    obtain ⟨v, r, rfl, h1, h2⟩ := h
    cases d <;> simp only [textsD] at e <;> try cases e
    cases q : textsD ds with
    | none => rw [q] at e; cases e
    | some xs =>
      rw [q] at e; cases e
      simp only [Rep] at h1
      rw [h1, Reps.texts h2 q]; rfl
theorem rn_join (hG : G.K = X.K) : RN G (fun vs H Q => match vs with | x :: xs => (fun x xs H Q => ∃ a p, ∃ ys : List Str, x = .str a ∧ xs = [.ref p] ∧ (SqL X.K H p (ys.map V.str) ∨ SqT X.K H p (ys.map V.str)) ∧
    (ys.map (·.length)).sum + ys.length * a.length ≤ 16777216 ∧ Q (.str (Txt.join a ys)) H) x xs H Q | [] => False) (fun xs => (dJoin xs).map .v) := rn_s fun F H xs vs z Q le hr ez k => by
  unfold dJoin at ez
  split at ez
  · rename_i a s
    obtain ⟨v, w, rfl, h1, h2⟩ := hr.two
    cases q1 : seqD s with
    | none => rw [q1] at ez; cases ez
    | some ds =>
      rw [q1] at ez
      simp only [Option.bind_some] at ez
      cases q2 : textsD ds with
      | none => rw [q2] at ez; cases ez
      | some ys =>
        rw [q2] at ez
        simp only [Option.bind_some] at ez
        split at ez
        · rename_i hz
          cases ez
          obtain ⟨p, us, rfl, h3, h4⟩ := h2.seq le q1
          have := h4.texts q2
          subst this
          rw [hG] at h3
          exact ⟨a, p, ys, repB_str h1, rfl, h3, hz, k _ (by simp only [Rep])⟩
        · cases ez
  · cases ez
end
/-! ### dicts -/
def repK (k : Key) (x : D) : List Key → List D → List D
  | j :: ks, y :: ys => (if j = k then x else y) :: repK k x ks ys
  | _, ys => ys
def putD (ks : List Key) (xs : List D) (k : Key) (x : D) : List Key × List D := if hasK ks k then (ks, repK k x ks xs) else (ks ++ [k], xs ++ [x])
def mkDict : List Key → List D → List D → Option (List Key × List D)
  | ks, xs, [] => some (ks, xs)
  | ks, xs, k :: v :: r => (keyD k).bind fun k => mkDict (putD ks xs k v).1 (putD ks xs k v).2 r
  | _, _, _ => none
/-- data whose own object never changes -/
def D.still : D → Bool
  | .lst _ => false
  | .dk _ _ => false
  | .ins _ _ _ => false
  | _ => true
def dGet2 : List D → Option D
  | [.dk ks ds, x, y] => if y.still then match x with
    | .non => some y
    | _ => (keyD x).map fun k => match ks.findIdx? fun j => decide (j = k) with
      | some n => (ds[n]?).getD y
      | none => y
    else none
  | _ => none
theorem RepB.still {G : Gx} {F H : Hp} {d : D} {v : V} (h : RepB G F H d v) (e : d.still = true) : Rep G F d v := by
  cases d <;> simp only [D.still] at e <;> try cases e
  all_goals simpa only [RepB] using h
section
variable {X : Cx} {G : Gx} {F H : Hp}
theorem repK_rep {k : Key} {d : D} {v : V} (hv : Rep G F d v) : ∀ {kvs : List (Key × V)} {ds : List D}, Reps G F ds (kvs.map (·.2)) → Reps G F (repK k d (kvs.map (·.1)) ds) ((kvs.map fun kv => if kv.1 = k then (kv.1, v) else kv).map (·.2))
  | [], ds, h => by simpa [repK] using h
  | p :: r, [], h => by simp [Reps] at h
  | p :: r, d0 :: ds, h => by
    simp only [List.map_cons, Reps] at h
    obtain ⟨v0, r', e1, h1, h2⟩ := h
    injection e1 with e1 e2
    subst e1
    simp only [List.map_cons, repK]
    refine .cons ?_ (repK_rep hv (by rw [e2]; exact h2))
    by_cases c : p.1 = k
    · simp only [c, if_pos]; exact hv
    · simp only [c, if_neg, not_false_eq_true]; exact h1
theorem putK_rep {ks : List Key} {ds : List D} {kvs : List (Key × V)} {k : Key} {d : D} {v : V} (hk : kvs.map (·.1) = ks) (hr : Reps G F ds (kvs.map (·.2))) (hv : Rep G F d v) :
    (putK kvs k v).map (·.1) = (putD ks ds k d).1 ∧ Reps G F (putD ks ds k d).2 ((putK kvs k v).map (·.2)) := by
  subst hk
  have e : hasK (kvs.map (·.1)) k = (kvs.any fun kv => decide (kv.1 = k)) := by unfold hasK; rw [List.any_map]; rfl
  unfold putK putD
  rw [e]
  by_cases c : (kvs.any fun kv => decide (kv.1 = k)) = true
  · rw [if_pos c, if_pos c]
    refine ⟨?_, repK_rep hv hr⟩
    rw [List.map_map]
    apply List.map_congr_left
    intro p _
    simp only [Function.comp]
    split <;> rfl
  · rw [if_neg c, if_neg c]
    exact ⟨by simp, by simpa using hr.append (.one hv)⟩
/-- the pairs of a display -/
def pairUp : List V → List (V × V)
  | x :: y :: r => (x, y) :: pairUp r
  | _ => []
theorem mkDict_rep : ∀ {es : List D} {vs : List V} {ks ks' : List Key} {ds ds' : List D} {kvs : List (Key × V)}, Reps G F es vs → kvs.map (·.1) = ks → Reps G F ds (kvs.map (·.2)) → mkDict ks ds es = some (ks', ds') →
    ∃ more : List (Key × V), pairUp vs = more.map (fun kv => (kV kv.1, kv.2)) ∧ more.length * 2 = es.length ∧ (mergeK kvs more).map (·.1) = ks' ∧ Reps G F ds' ((mergeK kvs more).map (·.2))
  | [], vs, ks, ks', ds, ds', kvs, h, hk, hr, e => by
    simp only [mkDict] at e; cases e
    simp only [Reps] at h; subst h
    exact ⟨[], rfl, rfl, hk, hr⟩
  | [a], vs, ks, ks', ds, ds', kvs, h, hk, hr, e => by simp [mkDict] at e
  | a :: b :: es, vs, ks, ks', ds, ds', kvs, h, hk, hr, e => by
    simp only [Reps] at h
    obtain ⟨v, r, rfl, h1, w, r2, rfl, h2, h3⟩ := h
    simp only [mkDict] at e
    cases q : keyD a with
    | none => rw [q] at e; cases e
    | some k =>
      rw [q] at e
      simp only [Option.bind_some] at e
      obtain ⟨p1, p2⟩ := putK_rep (k := k) hk hr h2
      obtain ⟨more, m1, m2, m3, m4⟩ := mkDict_rep h3 p1 p2 e
      have : v = kV k := by cases a <;> simp only [keyD] at q <;> cases q <;> simp only [Rep] at h1 <;> exact h1
      subst this
      exact ⟨(k, w) :: more, by simp [pairUp, m1], by simp; omega, m3, m4⟩
end
def kDict (ods : List OD) : Option OD := if ods.length ≤ 30 then (mkDict [] [] (OD.fzs ods)).map fun r => .k r.1 (r.2.map .v) else none
def mDict (as : List Opd) : M OD := mTake as kDict
def flatP : List (Opd × Opd) → List Opd
  | [] => []
  | (a, b) :: r => a :: b :: flatP r
section
variable {X : Cx} {G : Gx} {W : WX} {F H : Hp} {pos : Pos}
theorem tOpd_mono {a : Opd} {σ : St} {H : Hp} {Q Q' : VK} (h : tOpd G W a σ H Q) (k : ∀ v H, Q v H → Q' v H) : tOpd G W a σ H Q' := by
  cases a with
  | val p f => exact TX.mono h k
  | plc i => obtain ⟨v, e, q⟩ := h; exact ⟨v, e, k _ _ q⟩
theorem pairs_of : ∀ {as : List (Opd × Opd)} {σ : St} {H : Hp} {Q : List (V × V) → Hp → Prop}, tAll G W (flatP as) σ H (fun vs H1 => Q (pairUp vs) H1) → tPairs (as.map fun p => (tOpd G W p.1, tOpd G W p.2)) σ H Q
  | [], σ, H, Q, h => h
  | (a, b) :: r, σ, H, Q, h => tOpd_mono h fun x H1 h1 => tOpd_mono h1 fun y H2 h2 => pairs_of (Q := fun ps H3 => Q ((x, y) :: ps) H3) h2
theorem sx_dict {keys : List (Option Expr)} {values : List Expr} {as : List (Opd × Opd)} (h : PPs X pos keys values (as.map fun p => (tOpd G W p.1, tOpd G W p.2))) (hall : keys.all (·.isSome) = true) (hl : keys.length = values.length) (h0 : keys ≠ []) (h15 : keys.length ≤ 15) :
    SX X G W (pAll (flatP as)) (.Dict keys values pos) (mDict (flatP as)) := PE.of (pe_disp h hall hl h0 h15) fun σ H Q q => by
  intro p hp
  refine pairs_of ?_
  obtain ⟨F, ρ, A, κ, ς, S, hl, q⟩ := q
  unfold mDict mTake at q
  by_cases ho : okPl ρ (flatP as) = true
  · rw [if_pos ho] at q
    have hF : F p = none := by
      cases q : F p with
      | none => rfl
      | some o => rw [S.le p o q] at hp; cases hp
    have n0 : New F H F (upd H p (.dK [])) := .own S.le hp
    have hempty : OT G F (upd H p (.dK [])) (.k [] []) (.ref p) fun a => a = p := by
      simp only [OT, OTs]
      exact ⟨p, [], fun _ => False, rfl, upd_same, rfl, ⟨rfl, fun _ z => z⟩, .nil_r fun _ z => z⟩
    obtain ⟨A0, S0, h0'⟩ := (S.new n0).push hempty fun a z => by
      subst z
      refine ⟨hF, fun w => ?_⟩
      obtain ⟨o, q⟩ := S.sl.there a w
      rw [hp] at q; cases q
    have g0 : Go true F H A F (upd H p (.dK [])) A0 := ⟨n0.lf, fun a o q _ => n0.lh a o q, fun a z => ((h0' a).1 z).elim (fun e => .inr (e ▸ hp)) .inl, fun _ _ q => .inl q⟩
    refine tAll_run (κ := some (.k [] []) :: κ) (ς := some (.ref p) :: ς) S0 (by simp [hl]) (okPl_ok S hl ho) ?_
    cases e1 : evAll (flatP as) ρ with
    | stuck => rw [e1] at q; exact q
    | exc x ρ' =>
      rw [e1] at q
      intro F' H' A' cls dd g S' xr
      obtain ⟨A'', S'', sub⟩ := Stt.dropTop (show Stt G F' H' (some (.k [] []) :: (κ ++ ρ')) (some (.ref p) :: (ς ++ σ)) A' from S')
      exact q F' H' A'' cls dd (((g0.trans g).imp fun z => by cases z).less sub) S'' xr
    | ok ds ρ' =>
      rw [e1] at q
      simp only [Out.bind_ok] at q
      intro F1 H1 vs A1 g1 S1 l1
      cases e2 : takeAll ds ρ' with
      | none => rw [e2] at q; exact q.elim
      | some z =>
        obtain ⟨ods, ρ2⟩ := z
        rw [e2] at q
        simp only at q
        obtain ⟨F2, A2, S2, g2⟩ := take_run (κ := some (.k [] []) :: κ) (ς := some (.ref p) :: ς) S1 (by simp [hl]) l1 e2
        have hlv : vs.length = ods.length := by have := (takeAll_len e2).1; rw [l1.len]; exact this.symm
        obtain ⟨F3, A3, hr, S3, g3⟩ := S2.frzs hlv
        obtain ⟨B, A4, ho4, S4, c4, hB4⟩ := Stt.pop (show Stt G F3 H1 (some (.k [] []) :: (κ ++ ρ2)) (some (.ref p) :: (ς ++ σ)) A3 from S3)
        simp only [OT, OTs] at ho4
        obtain ⟨p', kvs, B', ep, hd, hk, ⟨_, hB'⟩, cB⟩ := ho4
        cases ep
        have hk0 : kvs = [] := by simpa using hk
        subst hk0
        refine ⟨hd, ?_⟩
        unfold kDict at q
        split at q
        · rename_i od hm
          split at hm
          · rename_i h30
            cases e5 : mkDict [] [] (OD.fzs ods) with
            | none => rw [e5] at hm; cases hm
            | some r =>
              obtain ⟨ks', ds'⟩ := r
              rw [e5] at hm; cases hm
              obtain ⟨more, m1, m2, m3, m4⟩ := mkDict_rep hr (kvs := []) rfl (by simp [Reps]) e5
              have hlen : (OD.fzs ods).length = ods.length := by rw [OD.fzs_map, List.length_map]
              refine ⟨more, m1, by omega, ?_⟩
              have hpB : B p := (cB.1 p).2 (.inl rfl)
              have hpA : ¬ A4 p := c4.2 p hpB
              have hF3 : F3 p = none := hB4 p hpB
              have le5 : Le F3 (upd H1 p (.dK (mergeK [] more))) := fun a o e => by
                by_cases ha : a = p
                · subst ha; rw [hF3] at e; cases e
                · rw [upd_ne ha]; exact S3.le a o e
              have S5 : Stt G F3 (upd H1 p (.dK (mergeK [] more))) (κ ++ ρ2) (ς ++ σ) A4 := ⟨le5, S4.sl.mono (.refl _) fun a z => upd_ne fun e => hpA (e ▸ z), S4.fr⟩
              have ho5 : OT G F3 (upd H1 p (.dK (mergeK [] more))) (.k ks' (ds'.map .v)) (.ref p) fun a => a = p := by
                simp only [OT]
                exact ⟨p, _, fun _ => False, rfl, upd_same, m3, ots_v m4, .nil_r fun _ z => z⟩
              obtain ⟨A6, S6, h6⟩ := S5.push ho5 fun a z => by subst z; exact ⟨hF3, hpA⟩
              refine q _ _ _ A6 ?_ S6
              have gg : Go (pAll (flatP as)) F H A F3 H1 A3 := (((g0.trans g1).trans g2).trans g3).imp fun z => by simp [z]
              refine ⟨gg.le, fun a o e n => ?_, fun a z => ?_, gg.nf⟩
              · have : a ≠ p := fun z => by subst z; rw [hp] at e; cases e
                rw [upd_ne this]
                exact gg.keep a o e n
              · rcases (h6 a).1 z with rfl | b
                · exact .inr hp
                · exact gg.sub a (c4.r b)
          · cases hm
        · exact q.elim
  · rw [if_neg ho] at q; exact q.elim
end
/-- d.get(k, x), k None too -/
def rGet2 : V → List V → Hp → VK → Prop := fun x xs H Q => ∃ a y z, x = .ref a ∧ xs = [y, z] ∧ ((∃ o, DGet H a y o ∧ Q (o.getD z) H) ∨ ∃ kvs, y = .non ∧ Rd H a (.dK kvs) ∧ Q z H)
section
variable {X : Cx} {G : Gx} {F H : Hp}
theorem d_getNone {pins : List (Addr × Obj)} {σ : St} {H : Hp} {s : Shared} {a : Addr} {kvs : List (Key × V)} {A : Around} {E : Value → Shared → Prop} {z : V} {r : Value} {Q : Value → Shared → Prop} (I : Inv X pins σ H s) (e : Rd H a (.dK kvs)) (rz : RelV z r) (h : ∀ w s', Inv X pins σ H s' → RelV z w → Q w s') :
    wpAny (model X.prog X.w) A (call (.builtin "dict.get") [.ref a, .none, r]) Q E s := by
  obtain ⟨_, hd, vs, _, dd⟩ := dk_rd I.hok e
  obtain ⟨f, hm, hf⟩ := none_map dd
  refine call_meetsIn PySem.F.slot_dict_get dd.typeIs PySem.F.entry_dict_get (PySem.F.args_dict_get_3 _ _ _) (meets_dict_get_default (noneKind X.prog X.w) a (show (noneKind X.prog X.w).is none .none = true from rfl) hd r) ⟨_, hm, ?_⟩
  rw [hf]
  exact h _ _ (I.tok _) rz
theorem mt_get2 (hu : X.A.units + 1 < cLine) : MtR X "dict.get" rGet2 := by
  intro pins s σ H x xs v us Q I rx rs h
  obtain ⟨a, y, z, rfl, rfl, h⟩ := h
  cases rx
  obtain ⟨u1, u2, rfl, r1, r2⟩ := vals2 rs
  rcases h with ⟨o, g, q⟩ | ⟨kvs, rfl, hd, q⟩
  · exact d_get2 hu I g r1 r2 fun w s3 I3 rw => ⟨_, H, I3, rw, q⟩
  · obtain rfl : u1 = Value.none := r1
    exact d_getNone I hd r2 fun w s3 I3 rw => ⟨_, H, I3, rw, q⟩
theorem dk_find {ks : List Key} {ds : List D} {kvs : List (Key × V)} {k : Key} {y : D} {w : V} (hk : kvs.map (·.1) = ks) (hr : Reps G F ds (kvs.map (·.2))) (hy : Rep G F y w) :
    Rep G F (match ks.findIdx? fun j => decide (j = k) with | some n => (ds[n]?).getD y | none => y) ((valV kvs k).getD w) := by
  cases e : ks.findIdx? fun j => decide (j = k) with
  | none =>
    have : valV kvs k = none := by
      have h1 := valV_has hk k
      have h2 : hasK ks k = false := by
        unfold hasK
        rw [List.any_eq_false]
        intro j hj
        have := List.findIdx?_eq_none_iff.mp e j hj
        simpa using this
      rw [h2] at h1
      cases q : valV kvs k with
      | none => rfl
      | some z => rw [q] at h1; cases h1
    rw [this]; exact hy
  | some n =>
    have hn : n < ds.length := by
      have h1 : n < ks.length := (List.findIdx?_eq_some_iff_getElem.mp e).1
      have h2 := hr.len
      rw [← hk, List.length_map] at h1
      simp only [List.length_map] at h2
      omega
    have ed : ds[n]? = some ds[n] := List.getElem?_eq_getElem hn
    obtain ⟨v, e1, h3⟩ := dk_get (k := k) hk hr (d := ds[n]) (by rw [e]; exact ed)
    rw [e1]
    simp only [ed, Option.getD_some]
    exact h3
theorem rn_get2 : RN G (fun vs H Q => match vs with | x :: xs => rGet2 x xs H Q | [] => False) (fun xs => (dGet2 xs).map .v) := rn_s fun F H xs vs z Q le hr ez k => by
  unfold dGet2 at ez
  split at ez
  · rename_i ks ds x y
    obtain ⟨v, w, u, rfl, h1, h2, h3⟩ := hr.three
    simp only [RepB] at h1
    obtain ⟨a, kvs, rfl, hd, hk, hv⟩ := h1
    split at ez
    rotate_left
    · cases ez
    rename_i hst
    have h3 := h3.still hst
    split at ez
    · cases ez
      exact ⟨a, w, u, rfl, rfl, .inr ⟨kvs, repB_non h2, hd, k _ h3⟩⟩
    · cases q : keyD x with
      | none => rw [q] at ez; cases ez
      | some ky =>
        rw [q] at ez; cases ez
        have := h2.key q
        subst this
        refine ⟨a, _, u, rfl, rfl, .inl ⟨_, .inl ⟨kvs, ky, hd, rfl, rfl⟩, k _ (dk_find hk hv h3)⟩⟩
  · cases ez
end
end Vs

/-! VsH: stores into lists and dicts, comprehensions. -/
namespace Vs
open PySem L2
section
variable {G : Gx} {F F' F1 F2 F3 H H' H1 H2 H3 : Hp} {A A' A1 A2 A3 B : AS} {ρ ρ' κ : Env} {σ ς : St}
/-- an item apart from the others -/
theorem OTs.at : ∀ {xs : List OD} {vs : List V} {A : AS} {j : Nat} {x : OD}, OTs G F H xs vs A → xs[j]? = some x → ∃ v A1 A2, vs[j]? = some v ∧ OT G F H x v A1 ∧ Cut A A1 A2 ∧
    ∀ F' H' x' v' A1' A', Le F F' → (∀ a, A2 a → H' a = H a) → OT G F' H' x' v' A1' → Cut A' A1' A2 → OTs G F' H' (xs.set j x') (vs.set j v') A'
  | [], vs, A, j, x, h, e => by simp at e
  | y :: xs, vs, A, 0, x, h, e => by
    simp only [OTs] at h
    obtain ⟨v, r, B1, B2, rfl, h1, h2, c⟩ := h
    simp at e; subst e
    refine ⟨v, B1, B2, rfl, h1, c, fun F' H' x' v' A1' A' le k ho c' => ?_⟩
    simp only [List.set_cons_zero, OTs]
    exact ⟨_, _, A1', B2, rfl, ho, h2.mono le k, c'⟩
  | y :: xs, vs, A, j + 1, x, h, e => by
    simp only [OTs] at h
    obtain ⟨v, r, B1, B2, rfl, h1, h2, c⟩ := h
    obtain ⟨w, C1, C2, e1, h3, c2, back⟩ := OTs.at (j := j) h2 (by simpa using e)
    obtain ⟨Y, c3, c4⟩ := c.symm.assoc c2
    -- A = C1 + Y, Y = C2 + B1
    refine ⟨w, C1, Y, by simpa using e1, h3, c3, fun F' H' x' v' A1' A' le k ho c' => ?_⟩
    simp only [List.set_cons_succ, OTs]
    have cz : Cut (fun a => A1' a ∨ C2 a) A1' C2 := .mk' _ _ fun a z y => c'.2 a z (c4.l y)
    refine ⟨_, _, B1, fun a => A1' a ∨ C2 a, rfl, h1.mono le fun a z => k a (c4.r z), back F' H' x' v' A1' _ le (fun a z => k a (c4.l z)) ho cz, ⟨fun a => ?_, fun a z y => ?_⟩⟩
    · rw [c'.1 a, c4.1 a]
      constructor
      · rintro (z | z | z)
        · exact .inr (.inl z)
        · exact .inr (.inr z)
        · exact .inl z
      · rintro (z | z | z)
        · exact .inr (.inr z)
        · exact .inl z
        · exact .inr (.inl z)
    · rcases y with y | y
      · exact c'.2 a y (c4.r z)
      · exact c4.2 a y z
theorem OTs.len : ∀ {xs : List OD} {vs : List V} {A : AS}, OTs G F H xs vs A → vs.length = xs.length
  | [], vs, A, h => by simp only [OTs] at h; rw [h.1]; rfl
  | x :: xs, vs, A, h => by
    simp only [OTs] at h
    obtain ⟨v, r, A1, A2, rfl, _, h2, _⟩ := h
    simp [OTs.len h2]
theorem OTs.snoc : ∀ {xs : List OD} {vs : List V} {A A' B : AS} {x : OD} {v : V}, OTs G F H xs vs A → OT G F H x v B → Cut A' A B → OTs G F H (xs ++ [x]) (vs ++ [v]) A'
  | [], vs, A, A', B, x, v, h, ho, c => by
    simp only [OTs] at h
    obtain ⟨rfl, hn⟩ := h
    simp only [List.nil_append, OTs]
    exact ⟨v, [], B, A, rfl, ho, ⟨rfl, hn⟩, c.symm⟩
  | y :: xs, vs, A, A', B, x, v, h, ho, c => by
    simp only [OTs] at h
    obtain ⟨w, r, B1, B2, rfl, h1, h2, c1⟩ := h
    obtain ⟨Y, c3, c4⟩ := c.assoc c1
    simp only [List.cons_append, OTs]
    exact ⟨w, r ++ [v], B1, Y, rfl, h1, OTs.snoc h2 ho c4, c3⟩
/-- the object of a slot is written: what it was, what it becomes -/
theorem Stt.write {i : Nat} {od od' : OD} {a : Addr} {o : HO} {v : V} {B : AS} (S : Stt G F H ρ σ A) (e : ρ[i]? = some (some od)) (ev : σ[i]? = some (some v))
    (h : ∀ A1, OT G F H od v A1 → A1 a ∧ ∀ A2, Cut A A1 A2 → ∃ A1', OT G F (upd H a o) od' v A1' ∧ (∀ b, A1' b → A1 b ∨ B b) ∧ ∀ b, A1' b → ¬ A2 b) (hB : ∀ b, B b → F b = none) :
    ∃ A', Stt G F (upd H a o) (ρ.set i (some od')) σ A' ∧ ∀ b, A' b → A b ∨ B b := by
  obtain ⟨w, A1, A2, h1, h2, h3, c⟩ := S.sl.at e
  rw [ev] at h1
  cases h1
  obtain ⟨ha, h⟩ := h A1 h2
  obtain ⟨A1', ho, s1, s2⟩ := h A2 c
  have hF : F a = none := S.fr a (c.l ha)
  have le : Le F (upd H a o) := fun b u q => by
    by_cases hb : b = a
    · subst hb; rw [hF] at q; cases q
    · rw [upd_ne hb]; exact S.le b u q
  have h3' : Sl G F (upd H a o) (ρ.set i none) σ A2 := h3.mono (.refl _) fun b z => upd_ne fun q => c.2 b (q ▸ ha) z
  have e0 : (ρ.set i none)[i]? = some none := List.getElem?_set_self (List.getElem?_eq_some_iff.mp e).1
  have h4 := h3'.put e0 ev ho (.mk' A1' A2 fun b z y => s2 b z y)
  rw [List.set_set] at h4
  refine ⟨_, ⟨le, h4, fun b z => ?_⟩, fun b z => ?_⟩
  · rcases z with z | z
    · rcases s1 b z with y | y
      · exact S.fr b (c.l y)
      · exact hB b y
    · exact S.fr b (c.r z)
  · rcases z with z | z
    · rcases s1 b z with y | y
      · exact .inl (c.l y)
      · exact .inr y
    · exact .inl (c.r z)
end
/-! ### x[i] = v, x.append(v) -/
def rSetA : TSet := fun o i v H Q => rSetL o i v H Q ∨ rSetD o i v H Q
theorem set_any {X : Cx} (hu : X.A.units + 1 < cLine) : PSet X rSetA := by
  intro pins s σ H o i v ov iv u Q I ro ri rv h
  rcases h with h | h
  · exact set_list pins s σ H o i v ov iv u Q I ro ri rv h
  · exact set_dict hu pins s σ H o i v ov iv u Q I ro ri rv h
/-- a store into a thing -/
def putIx (od : OD) (ix : D) (v : OD) : Option OD := match od with
  | .l xs => match ix with
    | .int k => (ixN xs.length k).map fun j => .l (xs.set j v)
    | _ => none
  | .k ks xs => (OD.shs xs).bind fun ds => (keyD ix).bind fun k => v.sh1.bind fun d => if ks.length < sizeLine then some (.k (putD ks ds k d).1 ((putD ks ds k d).2.map .v)) else none
  | _ => none
def slotIs (ρ : Env) (i : Nat) : Bool := (ρ[i]?.join).isSome
def zSetIx (i : Nat) (fv fi : M OD) : SM := fun ρ => (fv ρ).bind fun v ρ1 => if slotIs ρ1 i then (fi ρ1).bind fun ix ρ2 => match ix, ρ2[i]?.join with
  | .v x, some od => match putIx od x v with
    | some od' => .ok .nx (ρ2.set i (some od'))
    | none => .stuck
  | _, _ => .stuck else .stuck
def zApp (i : Nat) (fv : M OD) : SM := fun ρ => match ρ[i]?.join with
  | some (.l _) => (fv ρ).bind fun v ρ1 => match ρ1[i]?.join with
    | some (.l xs) => if xs.length < sizeLine then .ok .nx (ρ1.set i (some (.l (xs ++ [v])))) else .stuck
    | _ => .stuck
  | _ => .stuck
section
variable {G : Gx} {W : WX} {pn : List Nat} {F F' F1 F2 F3 H H' H1 H2 H3 : Hp} {A A' A1 A2 A3 B : AS} {ρ ρ' κ : Env} {σ ς : St} {X : Cx} {st : Stmt}
theorem join_some {ρ : Env} {i : Nat} {od : OD} (h : ρ[i]?.join = some od) : ρ[i]? = some (some od) := by
  cases e : ρ[i]? with
  | none => rw [e] at h; cases h
  | some y => rw [e] at h; simp only [Option.join_some] at h; rw [h]
/-- the stack's top goes into the slot's object -/
theorem putIx_run {i : Nat} {od od' v : OD} {ix : D} {x o iv : V} {Q : Hp → Prop} (S : Stt G F H (some v :: ρ) (some x :: σ) A) (e : ρ[i]? = some (some od)) (eo : σ[i]? = some (some o)) (hi : Rep G F ix iv) (hp : putIx od ix v = some od')
    (q : ∀ H' A', Go false F H A F H' A' → Stt G F H' (ρ.set i (some od')) σ A' → Q H') : rSetA o iv x H Q := by
  obtain ⟨B, A0, hv, S0, c0, hB⟩ := S.pop
  have goOf : ∀ {a : Addr} {u : HO} {A'' : AS}, A0 a → (∀ b, A'' b → A0 b ∨ B b) → Go false F H A F (upd H a u) A'' := fun {a u A''} ha s =>
    ⟨.refl _, fun b w z n => by
      have : b ≠ a := fun y => n ⟨rfl, y ▸ c0.r ha⟩
      rw [upd_ne this]; exact z, fun b z => .inl ((s b z).elim (fun y => c0.r y) fun y => c0.l y), fun _ _ z => .inl z⟩
  have hsl := S0.sl.at e
  obtain ⟨o', Ai, Aj, h1, hod, _, ci⟩ := hsl
  rw [eo] at h1
  cases h1
  cases od with
  | l xs =>
    simp only [putIx] at hp
    cases ix <;> simp only at hp <;> try cases hp
    rename_i k
    simp only [Rep] at hi
    subst hi
    cases q1 : ixN xs.length k with
    | none => rw [q1] at hp; cases hp
    | some j =>
      rw [q1] at hp; cases hp
      simp only [OT] at hod
      obtain ⟨a, vs, C, rfl, ha, hots, cC⟩ := hod
      have hlen : vs.length = xs.length := hots.len
      have hj := (ixN_seq q1).2.1
      left
      refine ⟨a, vs, k, j, rfl, rfl, ha, by rw [hlen]; exact q1, ?_⟩
      obtain ⟨A', S', sub⟩ := S0.write (i := i) (a := a) (o := .lst (vs.set j x)) (od' := .l (xs.set j v)) (B := B) e eo (fun A1 ho => by
        simp only [OT] at ho
        obtain ⟨a2, vs2, C2, ea, ha2, hots2, cC2⟩ := ho
        cases ea
        rw [ha] at ha2
        cases ha2
        refine ⟨cC2.l rfl, fun A2 cA => ?_⟩
        have ex : xs[j]? = some xs[j] := List.getElem?_eq_getElem hj
        obtain ⟨w, D1, D2, _, _, cD, back⟩ := hots2.at ex
        have hBA : ∀ b, B b → ¬ A0 b := c0.2
        have hax : ∀ b, D2 b → b ≠ a := fun b z y => cC2.2 b y (cD.r z)
        refine ⟨fun b => b = a ∨ (B b ∨ D2 b), ?_, fun b z => ?_, fun b z y => ?_⟩
        · simp only [OT]
          refine ⟨a, _, fun b => B b ∨ D2 b, rfl, upd_same, ?_, .mk' _ _ fun b z y => ?_⟩
          · refine back F (upd H a _) v x B _ (.refl _) (fun b z => upd_ne (hax b z)) ?_ (.mk' _ _ fun b z y => hBA b z (cA.l (cC2.r (cD.r y))))
            exact hv.mono (.refl _) fun b z => upd_ne fun y => hBA b z (cA.l (cC2.l y))
          · subst z
            rcases y with y | y
            · exact hBA _ y (cA.l (cC2.l rfl))
            · exact hax _ y rfl
        · rcases z with z | z | z
          · exact .inl (cC2.l z)
          · exact .inr z
          · exact .inl (cC2.r (cD.r z))
        · rcases z with z | z | z
          · exact cA.2 b (cC2.l z) y
          · exact hBA b z (cA.r y)
          · exact cA.2 b (cC2.r (cD.r z)) y) hB
      exact q _ A' (goOf (ci.l (cC.l rfl)) sub) S'
  | k ks xs =>
    simp only [putIx] at hp
    cases q1 : OD.shs xs with
    | none => rw [q1] at hp; cases hp
    | some ds =>
      rw [q1] at hp
      simp only [Option.bind_some] at hp
      cases q2 : keyD ix with
      | none => rw [q2] at hp; cases hp
      | some ky =>
        rw [q2] at hp
        simp only [Option.bind_some] at hp
        cases v with
        | v d =>
          simp only [OD.sh1, Option.bind_some] at hp
          split at hp
          · rename_i hlt
            cases hp
            simp only [OT] at hod hv
            obtain ⟨a, kvs, C, rfl, ha, hk, hots, cC⟩ := hod
            have hr := hots.sh q1
            have hv' := hv.1
            obtain ⟨p1, p2⟩ := putK_rep (k := ky) hk hr hv'
            have : iv = kV ky := (hi.b (Le.refl F)).key q2
            subst this
            right
            refine ⟨a, _, rfl, .inl ⟨kvs, ky, ha, rfl, by rw [← hk, List.length_map] at hlt; exact hlt, rfl⟩, ?_⟩
            obtain ⟨A', S', sub⟩ := S0.write (i := i) (a := a) (o := .dK (putK kvs ky x)) (od' := .k (putD ks ds ky d).1 ((putD ks ds ky d).2.map .v)) (B := B) e eo (fun A1 ho => by
              simp only [OT] at ho
              obtain ⟨a2, kvs2, C2, ea, ha2, hk2, hots2, cC2⟩ := ho
              cases ea
              refine ⟨cC2.l rfl, fun A2 cA => ⟨fun b => b = a, ?_, fun b z => .inl (cC2.l z), fun b z y => cA.2 b (cC2.l z) y⟩⟩
              simp only [OT]
              exact ⟨a, _, fun _ => False, rfl, upd_same, p1, ots_v p2, .nil_r fun _ z => z⟩) hB
            exact q _ A' (goOf (ci.l (cC.l rfl)) sub) S'
          · cases hp
        | _ => simp [OD.sh1] at hp
  | _ => simp [putIx] at hp
theorem z_setIx {i : Nat} {p p' : Bool} {fv fi : M OD} (h : PS X st (tAsg (TX G W p fv) (gSub (tVar i) (TX G W p' fi) rSetA))) : SS X G W pn st (zSetIx i fv fi) := PS.of h fun D σ H q => by
  obtain ⟨F, ρ, A, S, q⟩ := q
  unfold zSetIx at q
  refine TX.then S q fun v ρ1 F1 H1 x A1 e1 g1 S1 q1 => ?_
  by_cases hs : slotIs ρ1 i = true
  · rw [if_pos hs] at q1
    have : ∃ o, σ[i]? = some (some o) := by
      cases q0 : ρ1[i]?.join with
      | none => rw [slotIs, q0] at hs; cases hs
      | some od =>
        obtain ⟨A2, S2, _⟩ := S1.dropTop
        obtain ⟨o, _, _, h1, _⟩ := S2.sl.at (join_some q0)
        exact ⟨o, h1⟩
    obtain ⟨o, eo⟩ := this
    refine ⟨o, eo, ?_⟩
    refine ⟨F1, ρ1, A1, [some v], [some x], S1, rfl, ?_⟩
    cases e2 : fi ρ1 with
    | stuck => rw [e2] at q1; exact q1.elim
    | exc y ρ2 =>
      rw [e2] at q1
      intro F' H' A' cls d g S' xr
      obtain ⟨A'', S'', sub⟩ := Stt.dropTop (show Stt G F' H' (some v :: ρ2) (some x :: σ) A' from S')
      exact q1 F' H' σ A'' cls d (g.less sub) .refl S'' xr
    | ok ix ρ2 =>
      rw [e2] at q1
      simp only [Out.bind_ok] at q1
      intro F2 H2 iv A2 g2 S2
      split at q1
      · rename_i xd od e3
        obtain ⟨hr, S3⟩ := Stt.pop_v (show Stt G F2 H2 (some (.v xd) :: (some v :: ρ2)) (some iv :: (some x :: σ)) A2 from S2)
        cases e4 : putIx od xd v with
        | none => rw [e4] at q1; exact q1.elim
        | some od' =>
          rw [e4] at q1
          exact putIx_run S3 (join_some e3) eo hr e4 fun H' A' g' S' => q1 F2 H' σ A' ((g2.trans g').imp fun z => by cases z) .refl S'
      · exact q1.elim
  · rw [if_neg hs] at q1; exact q1.elim
theorem app_run {i : Nat} {xs : List OD} {v : OD} {x o : V} {Q : V → Hp → Prop} (S : Stt G F H (some v :: ρ) (some x :: σ) A) (e : ρ[i]? = some (some (.l xs))) (eo : σ[i]? = some (some o)) (hz : xs.length < sizeLine)
    (q : ∀ H' A', Go false F H A F H' A' → Stt G F H' (ρ.set i (some (.l (xs ++ [v])))) σ A' → Q .non H') : rAppend o [x] H Q := by
  obtain ⟨B, A0, hv, S0, c0, hB⟩ := S.pop
  obtain ⟨o', Ai, Aj, h1, hod, _, ci⟩ := S0.sl.at e
  rw [eo] at h1
  cases h1
  simp only [OT] at hod
  obtain ⟨a, vs, C, rfl, ha, hots, cC⟩ := hod
  have hlen : vs.length = xs.length := hots.len
  refine ⟨a, vs, x, rfl, rfl, ha, by omega, ?_⟩
  obtain ⟨A', S', sub⟩ := S0.write (i := i) (a := a) (o := .lst (vs ++ [x])) (od' := .l (xs ++ [v])) (B := B) e eo (fun A1 ho => by
    simp only [OT] at ho
    obtain ⟨a2, vs2, C2, ea, ha2, hots2, cC2⟩ := ho
    cases ea
    rw [ha] at ha2
    cases ha2
    refine ⟨cC2.l rfl, fun A2 cA => ?_⟩
    refine ⟨fun b => b = a ∨ (C2 b ∨ B b), ?_, fun b z => ?_, fun b z y => ?_⟩
    · simp only [OT]
      refine ⟨a, _, fun b => C2 b ∨ B b, rfl, upd_same, ?_, .mk' _ _ fun b z y => ?_⟩
      · refine OTs.snoc (hots2.mono (.refl _) fun b z => upd_ne fun y => cC2.2 b y z) (hv.mono (.refl _) fun b z => upd_ne fun y => c0.2 b z (cA.l (cC2.l y))) (.mk' _ _ fun b z y => c0.2 b y (cA.l (cC2.r z)))
      · subst z
        rcases y with y | y
        · exact cC2.2 _ rfl y
        · exact c0.2 _ y (cA.l (cC2.l rfl))
    · rcases z with z | z | z
      · exact .inl (cC2.l z)
      · exact .inl (cC2.r z)
      · exact .inr z
    · rcases z with z | z | z
      · exact cA.2 b (cC2.l z) y
      · exact cA.2 b (cC2.r z) y
      · exact c0.2 b z (cA.r y)) hB
  refine q _ A' ⟨.refl _, fun b w z n => ?_, fun b z => .inl ((sub b z).elim (fun y => c0.r y) fun y => c0.l y), fun _ _ z => .inl z⟩ S'
  have : b ≠ a := fun y => n ⟨rfl, y ▸ c0.r (ci.l (cC.l rfl))⟩
  rw [upd_ne this]; exact z
theorem z_app {i : Nat} {p : Bool} {fv : M OD} (hG : G.K = X.K) (h : PS X st (tDrop (tBM X.K "list" rAppend (tVar i) (tCons (TX G W p fv) tNil)))) : SS X G W pn st (zApp i fv) := PS.of h fun D σ H q => by
  obtain ⟨F, ρ, A, S, q⟩ := q
  unfold zApp at q
  split at q
  · rename_i ys e0
    obtain ⟨o, A1, A2, h1, h2, _⟩ := S.sl.at (join_some e0)
    refine ⟨o, h1, ?_⟩
    have hty : tyV X.K "list" o H := by
      simp only [OT] at h2
      obtain ⟨a, vs, A', rfl, h3, _⟩ := h2
      exact .inl ⟨rfl, vs, .of h3⟩
    refine ⟨hty, ?_⟩
    refine TX.then S q fun v ρ1 F1 H1 x A1 e1 g1 S1 q1 => ?_
    split at q1
    · rename_i xs e3
      split at q1
      · rename_i hz
        exact app_run (Q := fun _ H1 => D.nx σ H1) S1 (join_some e3) h1 hz fun H' A' g' S' => q1 F1 H' σ A' g' .refl S'
      · exact q1.elim
    · exact q1.elim
  · exact q.elim
end
/-! ### comprehensions -/
def wipeE (ρ : Env) : List Nat → Env
  | [] => ρ
  | v :: vs => (wipeE ρ vs).set v none
/-- the turns of a comprehension: what is made so far is data -/
def cLoop (tg : Tgt) (vs : List Nat) (c : M Bool) (e : M OD) : List D → List D → Env → Out (List D)
  | [], acc, ρ => .ok acc ρ
  | d :: ds, acc, ρ => match tg.put d (wipeE ρ vs) with
    | some ρ1 => match c ρ1 with
      | .ok true ρ2 => match e ρ2 with
        | .ok od ρ3 => if acc.length < sizeLine then cLoop tg vs c e ds (acc ++ [od.fz]) (wipeE ρ3 vs) else .stuck
        | _ => .stuck
      | .ok false ρ2 => cLoop tg vs c e ds acc (wipeE ρ2 vs)
      | _ => .stuck
    | none => .stuck
def bYes : M Bool := fun ρ => .ok true ρ
def mComp (it : M (List D)) (tg : Tgt) (vs : List Nat) (c : M Bool) (e : M OD) : M OD := fun ρ => (it ρ).bind fun ds ρ1 => (cLoop tg vs c e ds [] (wipeE ρ1 vs)).bind fun acc ρ2 => .ok (.l (acc.map .v)) ρ2
/-- nothing is wished of exceptions -/
abbrev W0 : WX := fun _ _ _ _ => False
section
variable {G : Gx} {W : WX} {F F' F1 F2 F3 H H' H1 H2 H3 : Hp} {A A' A1 A2 A3 B : AS} {ρ ρ' κ : Env} {σ ς : St} {X : Cx}
theorem wipe_stt : ∀ {vs : List Nat} {σ' : St} {A : AS}, Stt G F H (κ ++ ρ) (ς ++ σ') A → ς.length = κ.length → ∃ A', Stt G F H (κ ++ wipeE ρ vs) (ς ++ wipe σ' vs) A' ∧ ∀ a, A' a → A a
  | [], σ', A, S, hl => ⟨A, S, fun _ z => z⟩
  | v :: vs, σ', A, S, hl => by
    obtain ⟨A1, S1, s1⟩ := wipe_stt (vs := vs) S hl
    obtain ⟨A2, S2, s2⟩ := S1.sl.drop (i := κ.length + v)
    rw [setKap] at S2
    by_cases hv : v < (wipeE ρ vs).length
    · have e0 : (κ ++ (wipeE ρ vs).set v none)[κ.length + v]? = some none := getKap (List.getElem?_set_self hv)
      have S3 := S2.free (x := none) e0
      have : (ς ++ wipe σ' vs).set (κ.length + v) none = ς ++ (wipe σ' vs).set v none := by rw [← hl, List.set_append_right _ _ (by omega)]; simp
      rw [this] at S3
      exact ⟨A2, ⟨S1.le, S3, fun a z => S1.fr a (s2 a z)⟩, fun a z => s1 a (s2 a z)⟩
    · have l1 := S1.sl.len
      simp only [List.length_append] at l1
      have e1 : (wipeE ρ vs).set v none = wipeE ρ vs := List.set_eq_of_length_le (by omega)
      have e2 : (wipe σ' vs).set v none = wipe σ' vs := List.set_eq_of_length_le (by omega)
      refine ⟨A1, ?_, s1⟩
      show Stt G F H (κ ++ (wipeE ρ vs).set v none) (ς ++ (wipe σ' vs).set v none) A1
      rw [e1, e2]; exact S1
theorem wipe_get (σ : St) (j : Nat) : ∀ vs : List Nat, (wipe σ vs)[j]? = if j ∈ vs then σ[j]?.map fun _ => none else σ[j]?
  | [] => by simp [wipe]
  | v :: vs => by
    unfold wipe
    by_cases hj : v = j
    · subst hj
      by_cases hv : v < (wipe σ vs).length
      · rw [List.getElem?_set_self hv, if_pos List.mem_cons_self]
        rw [wipe_length] at hv
        rw [List.getElem?_eq_getElem hv]; rfl
      · rw [List.getElem?_eq_none (by simpa using hv), if_pos List.mem_cons_self]
        rw [wipe_length] at hv
        rw [List.getElem?_eq_none (by omega)]; rfl
    · rw [List.getElem?_set_ne hj, wipe_get σ j vs]
      simp only [List.mem_cons]
      by_cases h : j ∈ vs
      · rw [if_pos h, if_pos (.inr h)]
      · rw [if_neg h, if_neg (by rintro (z | z); exact hj z.symm; exact h z)]
theorem wipe_set {σ : St} {i : Nat} {x : Option V} {vs : List Nat} (h : i ∈ vs) : wipe (σ.set i x) vs = wipe σ vs := by
  apply List.ext_getElem?
  intro j
  rw [wipe_get, wipe_get]
  by_cases hj : i = j
  · subst hj
    rw [if_pos h, if_pos h]
    by_cases hi : i < σ.length
    · rw [List.getElem?_set_self hi, List.getElem?_eq_getElem hi]; rfl
    · rw [List.getElem?_eq_none (by simpa using hi), List.getElem?_eq_none (by omega)]
  · rw [List.getElem?_set_ne hj]
theorem wipe_wipe {σ : St} {vs : List Nat} : wipe (wipe σ vs) vs = wipe σ vs := by
  apply List.ext_getElem?
  intro j
  rw [wipe_get, wipe_get]
  by_cases h : j ∈ vs
  · rw [if_pos h, if_pos h]; cases σ[j]? <;> rfl
  · rw [if_neg h, if_neg h]
theorem Stt.setvK {d : D} {v : V} {i : Nat} (S : Stt G F H (κ ++ ρ) (ς ++ σ) A) (hl : ς.length = κ.length) (h : Rep G F d v) (hi : i < ρ.length) : ∃ A', Stt G F H (κ ++ ρ.set i (some (.v d))) (ς ++ σ.set i (some v)) A' ∧ ∀ a, A' a → A a := by
  obtain ⟨A', S', sub⟩ := S.setv (i := κ.length + i) h (by simp; omega)
  rw [setKap] at S'
  have : (ς ++ σ).set (κ.length + i) (some v) = ς ++ σ.set i (some v) := by rw [← hl, List.set_append_right _ _ (by omega)]; simp
  rw [this] at S'
  exact ⟨A', S', sub⟩
theorem names_runK : ∀ {is : List Nat} {ds : List D} {us : List V} {ρ ρ1 : Env} {σ : St} {A : AS} {vs : List Nat} {Q : St → Hp → Prop}, ς.length = κ.length → Stt G F H (κ ++ ρ) (ς ++ σ) A → Reps G F ds us → setAll is ds ρ = some ρ1 → (∀ i ∈ is, i ∈ vs) →
    (∀ σ' A', Stt G F H (κ ++ ρ1) (ς ++ σ') A' → (∀ a, A' a → A a) → wipe σ' vs = wipe σ vs → Q σ' H) → gNames is us σ H Q
  | [], ds, us, ρ, ρ1, σ, A, vs, Q, hl, S, r, e, hp, q => by
    cases ds with
    | nil =>
      simp only [setAll] at e; cases e
      simp only [Reps] at r
      exact ⟨r, q σ A S (fun _ h => h) rfl⟩
    | cons d ds => simp [setAll] at e
  | i :: is, ds, us, ρ, ρ1, σ, A, vs, Q, hl, S, r, e, hp, q => by
    cases ds with
    | nil => simp [setAll] at e
    | cons d ds =>
      simp only [setAll] at e
      split at e
      · rename_i hi
        simp only [Reps] at r
        obtain ⟨v, vr, rfl, r1, r2⟩ := r
        obtain ⟨A1, S1, sub⟩ := S.setvK hl r1 hi
        refine ⟨v, vr, rfl, ?_⟩
        exact names_runK hl S1 r2 e (fun j hj => hp j (List.mem_cons_of_mem _ hj)) fun σ' A' S' s' p' => q σ' A' S' (fun a ha => sub a (s' a ha)) (p'.trans (wipe_set (hp i List.mem_cons_self)))
      · cases e
theorem setAll_len : ∀ {is : List Nat} {ds : List D} {ρ ρ1 : Env}, setAll is ds ρ = some ρ1 → ds.length = is.length
  | [], [], _, _, _ => rfl
  | [], _ :: _, _, _, e => by simp [setAll] at e
  | _ :: _, [], _, _, e => by simp [setAll] at e
  | i :: is, d :: ds, ρ, ρ1, e => by
    simp only [setAll] at e
    split at e
    · simp [setAll_len e]
    · cases e
/-- the target's slots are the block's own -/
theorem tgt_wipe {tg : Tgt} {d : D} {v : V} {ρ1 : Env} {vs : List Nat} {Q : St → Hp → Prop} (hl : ς.length = κ.length) (S : Stt G F H (κ ++ ρ) (ς ++ σ) A) (r : Rep G F d v) (e : tg.put d ρ = some ρ1) (hp : ∀ i ∈ tg.ix, i ∈ vs)
    (q : ∀ σ' A', Stt G F H (κ ++ ρ1) (ς ++ σ') A' → (∀ a, A' a → A a) → wipe σ' vs = wipe σ vs → Q σ' H) : tg.t G.K v σ H Q := by
  cases tg with
  | name i =>
    simp only [Tgt.put] at e
    split at e
    · rename_i hi
      cases e
      obtain ⟨A1, S1, sub⟩ := S.setvK hl r hi
      exact q _ A1 S1 sub (wipe_set (hp i (by simp [Tgt.ix])))
    · cases e
  | tup is =>
    cases d with
    | tup ds =>
      simp only [Tgt.put] at e
      simp only [Rep] at r
      obtain ⟨a, us, rfl, h1, h2⟩ := r
      refine ⟨a, us, rfl, S.le.sqt h1, by rw [h2.len, setAll_len e], ?_⟩
      exact names_runK hl S h2 e hp q
    | _ => simp [Tgt.put] at e
/-- one more item -/
theorem ot_snoc {acc : List D} {d : D} {y : V} {D' : Addr} {us : List V} (h : Reps G F acc us) (hy : Rep G F d y) : OT G F (upd H D' (.lst (us ++ [y]))) (.l ((acc ++ [d]).map .v)) (.ref D') fun b => b = D' :=
  ot_lv (h.append (.one hy)) upd_same
theorem Sl.agree : ∀ {ρ : Env} {σ σ2 : St} {A : AS}, Sl G F H ρ σ A → σ2.length = σ.length → (∀ j : Nat, ρ[j]? = some none ∨ σ2[j]? = σ[j]?) → Sl G F H ρ σ2 A
  | [], σ, σ2, A, h, hl, k => by
    simp only [Sl] at h ⊢
    obtain ⟨rfl, hn⟩ := h
    exact ⟨List.eq_nil_of_length_eq_zero (by simpa using hl), hn⟩
  | x :: ρ, σ, σ2, A, h, hl, k => by
    cases σ with
    | nil => cases x <;> simp only [Sl] at h <;> (first | (obtain ⟨_, _, e, _⟩ := h; cases e) | (obtain ⟨_, _, _, _, e, _⟩ := h; cases e))
    | cons y σ =>
      cases σ2 with
      | nil => simp at hl
      | cons y2 σ2 =>
        have hl' : σ2.length = σ.length := by simpa using hl
        have k' : ∀ j : Nat, ρ[j]? = some none ∨ σ2[j]? = σ[j]? := fun j => by simpa using k (j + 1)
        cases x with
        | none =>
          simp only [Sl] at h ⊢
          obtain ⟨z, r, e, h⟩ := h
          injection e with e1 e2; subst e1 e2
          exact ⟨_, _, rfl, Sl.agree h hl' k'⟩
        | some od =>
          simp only [Sl] at h ⊢
          obtain ⟨v, r, B1, B2, e, ho, h, c⟩ := h
          injection e with e1 e2; subst e1 e2
          have k0 := k 0
          simp at k0
          subst k0
          exact ⟨_, _, _, _, rfl, ho, Sl.agree h hl' k', c⟩
theorem wipeE_len (ρ : Env) : ∀ vs : List Nat, (wipeE ρ vs).length = ρ.length
  | [] => rfl
  | v :: vs => by unfold wipeE; rw [List.length_set, wipeE_len ρ vs]
theorem wipeE_get (ρ : Env) (j : Nat) : ∀ vs : List Nat, (wipeE ρ vs)[j]? = if j ∈ vs then ρ[j]?.map fun _ => none else ρ[j]?
  | [] => by simp [wipeE]
  | v :: vs => by
    have hl : ∀ vs : List Nat, (wipeE ρ vs).length = ρ.length := by
      intro vs
      induction vs with
      | nil => rfl
      | cons v vs ih => unfold wipeE; rw [List.length_set, ih]
    unfold wipeE
    by_cases hj : v = j
    · subst hj
      by_cases hv : v < (wipeE ρ vs).length
      · rw [List.getElem?_set_self hv, if_pos List.mem_cons_self]
        rw [hl] at hv
        rw [List.getElem?_eq_getElem hv]; rfl
      · rw [List.getElem?_eq_none (by simpa using hv), if_pos List.mem_cons_self]
        rw [hl] at hv
        rw [List.getElem?_eq_none (by omega)]; rfl
    · rw [List.getElem?_set_ne hj, wipeE_get ρ j vs]
      simp only [List.mem_cons]
      by_cases h : j ∈ vs
      · rw [if_pos h, if_pos (.inr h)]
      · rw [if_neg h, if_neg (by rintro (z | z); exact hj z.symm; exact h z)]
theorem unwipe {vs : List Nat} (S : Stt G F H (κ ++ wipeE ρ vs) (ς ++ wipe σ vs) A) (hl : ς.length = κ.length) : Stt G F H (κ ++ wipeE ρ vs) (ς ++ σ) A := by
  refine ⟨S.le, S.sl.agree (by simp [wipe_length]) fun j => ?_, S.fr⟩
  have hlen := S.sl.len
  by_cases hj : j < κ.length
  · right
    rw [List.getElem?_append_left (by omega), List.getElem?_append_left (by omega)]
  · rw [List.getElem?_append_right (by omega), List.getElem?_append_right (by omega), List.getElem?_append_right (by omega), hl]
    by_cases hv : (j - κ.length) ∈ vs
    · cases e : ρ[j - κ.length]? with
      | some y => left; rw [wipeE_get, if_pos hv, e]; rfl
      | none =>
        right
        rw [wipe_get, if_pos hv]
        cases e2 : σ[j - κ.length]? with
        | none => rfl
        | some y =>
          exfalso
          simp only [List.length_append, wipe_length] at hlen
          have h1 := (List.getElem?_eq_some_iff.mp e2).1
          have h2 := List.getElem?_eq_none_iff.mp e
          have hl2 := wipeE_len ρ vs
          omega
    · right
      rw [wipe_get, if_neg hv]
/-- the whole walk of a comprehension -/
theorem comp_run {J : It} {P : Hp → Prop} {yv : List V} {tg : Tgt} {vs : List Nat} {pc pe p : Bool} {c : M Bool} {e : M OD} {Q : VK} {F0 H0 : Hp} {A0 : AS} (w : Wk J P yv) {ds : List D} (S : Stt G F H (κ ++ ρ) (ς ++ σ) A) (hl : ς.length = κ.length) (g0 : Go p F0 H0 A0 F H A)
    (hpp : p = true → pc = true ∧ pe = true) (r : Reps G F ds yv) (hP : ∀ F' H', Le F F' → Le F' H' → P H') (hp : ∀ i ∈ tg.ix, i ∈ vs)
    (h : Pst G W p ((cLoop tg vs c e ds [] (wipeE ρ vs)).bind fun acc ρ2 => .ok (.l (acc.map .v)) ρ2) F0 H0 A0 κ ς σ fun od ρ' => ∀ F' H' v A', Go p F0 H0 A0 F' H' A' → Stt G F' H' (some od :: (κ ++ ρ')) (some v :: (ς ++ σ)) A' → Q v H') :
    ∀ D, H D = none → ∃ W' : Nat → Nat → Hp → Prop, (∃ m, W' 0 m (upd H D (.lst []))) ∧ ∀ i m H, W' i m H →
      (J.stop i H ∧ Q (.ref D) H) ∨ (J.go i H ∧ ∃ Nx : Hp → Prop, (∀ H', Nx H' → ∃ m', m' < m ∧ W' (i + 1) m' H') ∧ ∀ x H', J.yld i H x H' → tg.t G.K x (wipe σ vs) H' fun σ2 H2 => wipe σ2 vs = wipe σ vs ∧ TB G W0 pc c σ2 H2 fun b H3 =>
        if b = true then TX G W0 pe e σ2 H3 fun y H4 => ∃ acc, H4 D = some (.lst acc) ∧ acc.length < sizeLine ∧ Nx (upd H4 D (.lst (acc ++ [y]))) else Nx H3) := by
  intro D hD
  have hlen := r.len
  have hD0 : A0 D ∨ H0 D = none := g0.back (.inr hD)
  have hkp : ∀ o, H0 D = some o → ¬ (p = false ∧ A0 D) → False := fun o q n => by
    have := g0.keep D o q n
    rw [hD] at this; cases this
  -- the new list is held on the stack
  let Held : Nat → Hp → Prop := fun i H' => ∃ F' A' acc ρ', Stt G F' H' (some (.l (acc.map .v)) :: (κ ++ wipeE ρ' vs)) (some (.ref D) :: (ς ++ wipe σ vs)) A' ∧ Go p F0 H0 A0 F' H' A' ∧ Le F F' ∧
    Pst G W p ((cLoop tg vs c e (ds.drop i) acc (wipeE ρ' vs)).bind fun acc ρ2 => .ok (.l (acc.map .v)) ρ2) F0 H0 A0 κ ς σ fun od ρ' => ∀ F' H' v A', Go p F0 H0 A0 F' H' A' → Stt G F' H' (some od :: (κ ++ ρ')) (some v :: (ς ++ σ)) A' → Q v H'
  have mkHeld : ∀ {i : Nat} {F1 H1 : Hp} {A1 : AS} {acc : List Vs.D} {ρ1 : Env} {us : List V}, Stt G F1 H1 (κ ++ wipeE ρ1 vs) (ς ++ wipe σ vs) A1 → Reps G F1 acc us → F1 D = none → ¬ A1 D → Go p F0 H0 A0 F1 H1 A1 → Le F F1 →
      Pst G W p ((cLoop tg vs c e (ds.drop i) acc (wipeE ρ1 vs)).bind fun acc ρ2 => .ok (.l (acc.map .v)) ρ2) F0 H0 A0 κ ς σ (fun od ρ' => ∀ F' H' v A', Go p F0 H0 A0 F' H' A' → Stt G F' H' (some od :: (κ ++ ρ')) (some v :: (ς ++ σ)) A' → Q v H') → Held i (upd H1 D (.lst us)) := by
    intro i F1 H1 A1 acc ρ1 us S1 ra f1 n1 g1 le1 h1
    have hne : ∀ a, A1 a → a ≠ D := fun a z q => n1 (q ▸ z)
    have S1' : Stt G F1 (upd H1 D (.lst us)) (κ ++ wipeE ρ1 vs) (ς ++ wipe σ vs) A1 := ⟨fun a o q => by
      by_cases ha : a = D
      · subst ha; rw [f1] at q; cases q
      · rw [upd_ne ha]; exact S1.le a o q, S1.sl.mono (.refl _) fun a z => upd_ne (hne a z), S1.fr⟩
    obtain ⟨A2, S2, h2⟩ := S1'.push (ot_lv ra upd_same) fun a z => by subst z; exact ⟨f1, n1⟩
    refine ⟨F1, A2, acc, ρ1, S2, ⟨g1.le, fun a o q n => ?_, fun a z => ?_, g1.nf⟩, le1, h1⟩
    · by_cases ha : a = D
      · subst ha; exact (hkp o q n).elim
      · rw [upd_ne ha]; exact g1.keep a o q n
    · rcases (h2 a).1 z with rfl | b
      · exact hD0
      · exact g1.sub a b
  have hFD : F D = none := by
    cases q : F D with
    | none => rfl
    | some o => rw [S.le D o q] at hD; cases hD
  refine ⟨fun i m H' => m = yv.length - i ∧ i ≤ yv.length ∧ Held i H', ⟨yv.length, by simp, Nat.zero_le _, ?_⟩, ?_⟩
  · obtain ⟨A1, S1, s1⟩ := wipe_stt (vs := vs) S hl
    refine mkHeld S1 .nil hFD (fun z => ?_) (g0.less s1) (.refl _) h
    obtain ⟨o, q⟩ := S1.sl.there D z
    rw [hD] at q; cases q
  · rintro i m H1 ⟨rfl, hi, F1, A1, acc, ρ1, S1, g1, le1, h1⟩
    have p1 := hP F1 H1 le1 S1.le
    by_cases hlt : i < yv.length
    · right
      have ey : yv[i]? = some yv[i] := List.getElem?_eq_getElem hlt
      have hd : i < ds.length := by omega
      refine ⟨w.go i H1 _ p1 ey, fun H' => yv.length - (i + 1) < yv.length - i ∧ i + 1 ≤ yv.length ∧ Held (i + 1) H', fun H' z => ⟨yv.length - (i + 1), z.1, rfl, z.2⟩, fun x H' y => ?_⟩
      obtain ⟨rfl, rfl⟩ := w.yld i H1 _ x H' p1 ey y
      have rd : Rep G F1 ds[i] yv[i] := by
        obtain ⟨v, e1, e2⟩ := r.get (List.getElem?_eq_getElem hd)
        rw [ey] at e1; cases e1
        exact e2.mono le1
      rw [List.drop_eq_getElem_cons hd] at h1
      simp only [cLoop] at h1
      obtain ⟨A2, S2, s2⟩ := wipe_stt (κ := some (.l (acc.map .v)) :: κ) (ς := some (.ref D) :: ς) (vs := vs) S1 (by simp [hl])
      rw [wipe_wipe] at S2
      cases ep : tg.put ds[i] (wipeE (wipeE ρ1 vs) vs) with
      | none => rw [ep] at h1; exact h1.elim
      | some ρ2 =>
        rw [ep] at h1
        simp only at h1
        have hl' : (some (V.ref D) :: ς).length = (some (OD.l (acc.map .v)) :: κ).length := by simp [hl]
        refine tgt_wipe hl' S2 rd ep hp fun σ2 A3 S3 s3 hw => ⟨by rw [hw, wipe_wipe], ?_⟩
        rw [wipe_wipe] at hw
        refine ⟨F1, ρ2, A3, _, _, S3, hl', ?_⟩
        cases ec : c ρ2 with
        | stuck => rw [ec] at h1; exact h1.elim
        | exc x' ρ3 => rw [ec] at h1; exact h1.elim
        | ok b ρ3 =>
          rw [ec] at h1
          intro F3 H3 A4 g3 S4
          have g13 : Go p F0 H0 A0 F3 H3 A4 := (((g1.less s2).less s3).trans g3).imp fun z => by simp [z, (hpp z).1]
          cases b with
          | false =>
            refine iteF ⟨by omega, by omega, ?_⟩
            obtain ⟨A5, S5, s5⟩ := wipe_stt (vs := vs) S4 hl'
            rw [hw] at S5
            exact ⟨F3, A5, acc, ρ3, S5, g13.less s5, le1.trans g3.le, h1⟩
          | true =>
            refine iteT ⟨F3, ρ3, A4, _, _, S4, hl', ?_⟩
            simp only at h1
            cases ee : e ρ3 with
            | stuck => rw [ee] at h1; exact h1.elim
            | exc x' ρ4 => rw [ee] at h1; exact h1.elim
            | ok od ρ4 =>
              rw [ee] at h1
              simp only at h1
              intro F4 H4 y A5 g4 S5
              split at h1
              · rename_i hz
                obtain ⟨F5, A6, ry, S6, g5, _⟩ := Stt.frz (p := true) S5
                obtain ⟨A7, S7, s7⟩ := wipe_stt (vs := vs) S6 hl'
                rw [hw] at S7
                obtain ⟨B, A8, ho, S8, c8, hB8⟩ := Stt.pop (show Stt G F5 H4 (some (.l (acc.map .v)) :: (κ ++ wipeE ρ4 vs)) (some (.ref D) :: (ς ++ wipe σ vs)) A7 from S7)
                simp only [OT] at ho
                obtain ⟨a, us, C, ea, hu, hots, cC⟩ := ho
                cases ea
                have ra := hots.sh (shs_v acc)
                have hBD : B D := (cC.1 D).2 (.inl rfl)
                have gg : Go p F0 H0 A0 F5 H4 A8 := ((((g13.trans g4).trans g5).less s7).less fun a z => c8.r z).imp fun z => by simp [z, (hpp z).2]
                refine ⟨us, hu, by rw [ra.len]; exact hz, by omega, by omega, ?_⟩
                exact mkHeld S8 (ra.append (.one ry)) (hB8 D hBD) (c8.2 D hBD) gg (le1.trans (g3.le.trans (g4.le.trans g5.le))) h1
              · exact h1.elim
    · left
      have e : i = yv.length := by omega
      subst e
      rw [List.drop_eq_nil_of_le (by omega)] at h1
      refine ⟨w.stop H1 p1, ?_⟩
      refine h1 F1 H1 (.ref D) A1 g1 ?_
      exact unwipe (κ := some (.l (acc.map .v)) :: κ) (ς := some (.ref D) :: ς) S1 (by simp [hl])
variable {e elt tgt iter : Expr} {ifs : List Expr} {scope : Scope} {own : List (Str × Nat)} {pos : Pos}
/-- the walk of a comprehension over a value -/
theorem sx_comp {p pc pe : Bool} {fi : M OD} {tg : Tgt} {fc : M Bool} {fe : M OD} (hG : G.K = X.K) (hc : X.calm = true) (hN : X.N.Nodup) (hi : SX X G W p iter fi) (ok : BlkOk X.N X.env.scope scope own) (hp : ∀ i ∈ tg.ix, i ∈ own.map (·.2))
    (hg : ∀ (s : Shared) (H : Hp) (C : Addr) (cl : List (Str × Addr)) (fp : List Addr), PG (X.blk s H scope (compEnvC scope cl C X.env) fp) tgt (tg.t G.K))
    (ht : ∀ (s : Shared) (H : Hp) (C : Addr) (cl : List (Str × Addr)) (fp : List Addr), PTs (X.blk s H scope (compEnvC scope cl C X.env) fp) ifs (TB G W0 pc fc))
    (he : ∀ (s : Shared) (H : Hp) (C : Addr) (cl : List (Str × Addr)) (fp : List Addr), SX (X.blk s H scope (compEnvC scope cl C X.env) fp) G W0 pe elt fe) (hs : ∀ x, foldedSetIterable iter X.env x = pure x := by intro _; rfl) :
    SX X G W (p && (pc && pe)) (.ListComp elt [⟨tgt, iter, ifs, 0⟩] scope pos) (mComp (zIt fi) tg (own.map (·.2)) fc fe) := PE.of (pe_lc hc hN (pi_any hi) ok hg ht he hs) fun σ H Q q => by
  obtain ⟨F, ρ, A, κ, ς, S, hl, q⟩ := q
  unfold mComp zIt at q
  rw [← hG]
  refine ⟨F, ρ, A, κ, ς, S, hl, ?_⟩
  cases e1 : fi ρ with
  | stuck => rw [e1] at q; exact q
  | exc x ρ' => rw [e1] at q; exact q
  | ok od ρ1 =>
    rw [e1] at q
    simp only [Out.bind_ok] at q
    intro F1 H1 v A1 g1 S1
    obtain ⟨F2, A2, hr, S2, g2, _⟩ := Stt.frz (p := true) S1
    cases e2 : items od.fz with
    | none => rw [e2] at q; exact q.elim
    | some ds =>
      rw [e2] at q
      simp only [Out.bind_ok] at q
      refine any_run S2.le hr e2 fun J P yv w r pp => ?_
      exact comp_run (p := p && (pc && pe)) w S2 hl ((g1.trans g2).imp fun z => by simp only [Bool.and_eq_true] at z; simp [z.1]) (fun z => by simp only [Bool.and_eq_true] at z; exact z.2) r pp hp q
theorem sx_compR1 {p pc pe : Bool} {fi : M OD} {tg : Tgt} {fc : M Bool} {fe : M OD} {e1 : Expr} {q1 q2 : Pos} (hG : G.K = X.K) (hc : X.calm = true) (hN : X.N.Nodup) (hgl : Gl X "range") (hm : X.mg "range" = none) (ha : PA X [e1] (tCons (TX G W p fi) tNil)) (ok : BlkOk X.N X.env.scope scope own) (hp : ∀ i ∈ tg.ix, i ∈ own.map (·.2))
    (hg : ∀ (s : Shared) (H : Hp) (C : Addr) (cl : List (Str × Addr)) (fp : List Addr), PG (X.blk s H scope (compEnvC scope cl C X.env) fp) tgt (tg.t G.K))
    (ht : ∀ (s : Shared) (H : Hp) (C : Addr) (cl : List (Str × Addr)) (fp : List Addr), PTs (X.blk s H scope (compEnvC scope cl C X.env) fp) ifs (TB G W0 pc fc))
    (he : ∀ (s : Shared) (H : Hp) (C : Addr) (cl : List (Str × Addr)) (fp : List Addr), SX (X.blk s H scope (compEnvC scope cl C X.env) fp) G W0 pe elt fe) (hs : ∀ x, foldedSetIterable (.Call (.Name "range" q1) [e1] [] q2) X.env x = pure x := by intro _; rfl)
    (hst : starEach [e1] X.env = [(false, eval e1 X.env)] := by rfl) :
    SX X G W (p && (pc && pe)) (.ListComp elt [⟨tgt, .Call (.Name "range" q1) [e1] [] q2, ifs, 0⟩] scope pos) (mComp (zRng1 fi) tg (own.map (·.2)) fc fe) := PE.of (pe_lc hc hN (pi_range1 hgl hm ha hst) ok hg ht he hs) fun σ H Q q => by
  obtain ⟨F, ρ, A, κ, ς, S, hl, q⟩ := q
  unfold mComp zRng1 at q
  refine ⟨F, ρ, A, κ, ς, S, hl, ?_⟩
  cases e1 : fi ρ with
  | stuck => rw [e1] at q; exact q
  | exc x ρ' => rw [e1] at q; exact q
  | ok od ρ1 =>
    rw [e1] at q
    simp only [Out.bind_ok] at q
    intro F1 H1 v A1 g1 S1
    split at q
    · rename_i n
      split at q
      · rename_i hn
        obtain ⟨hr, S2⟩ := Stt.pop_v S1
        simp only [Rep] at hr
        simp only [Out.bind_ok] at q
        refine ⟨n, by rw [hr], hn.1, hn.2, ?_⟩
        exact comp_run (p := p && (pc && pe)) wk_rng S2 hl (g1.imp fun z => by simp only [Bool.and_eq_true] at z; simp [z.1]) (fun z => by simp only [Bool.and_eq_true] at z; exact z.2) reps_rng (fun _ _ _ _ => trivial) hp q
      · exact q.elim
    · exact q.elim
theorem pts_yes : PTs X [] (TB G W0 true bYes) := ⟨fun pins s σ H Q I h => pts_nil.run pins s σ H Q I (by
  obtain ⟨F, ρ, A, κ, ς, S, hl, q⟩ := h
  exact q F H A .refl S)⟩
end
end Vs

/-! VsI: chains of comparisons, truth values, choices; defs by name, the head. -/
namespace Vs
open PySem L2
/-! ### a op b op' c, of ints -/
def mChain (g g' : Int → Int → Bool) (fa fb fc : M OD) : M Bool := fun ρ => (fa ρ).bind fun x ρ1 => (fb ρ1).bind fun y ρ2 => match x, y with
  | .v (.int i), .v (.int j) => if g i j then (fc ρ2).bind fun z ρ3 => match z with
    | .v (.int k) => .ok (g' j k) ρ3
    | _ => .stuck
    else .ok false ρ2
  | _, _ => .stuck
section
variable {G : Gx} {W : WX} {F F' F1 F2 F3 H H' H1 H2 H3 : Hp} {A A' A1 A2 A3 : AS} {ρ ρ' κ : Env} {σ ς : St} {X : Cx} {e a b c : Expr} {pos : Pos}
theorem chain_run {g g' : Int → Int → Bool} {pa pb pc : Bool} {fa fb fc : M OD} {Q : Bool → Hp → Prop} (h : TB G W (pa && (pb && pc)) (mChain g g' fa fb fc) σ H Q) :
    tTest (tChain (rI0 fun i j => .bl (g i j)) (rI0 fun i j => .bl (g' i j)) (TX G W pa fa) (TX G W pb fb) (TX G W pc fc)) σ H Q := by
  obtain ⟨F, ρ, A, κ, ς, S, hl, h⟩ := h
  refine ⟨F, ρ, A, κ, ς, S, hl, ?_⟩
  unfold mChain at h
  cases e1 : fa ρ with
  | stuck => rw [e1] at h; exact h
  | exc x ρ' => rw [e1] at h; exact h
  | ok x ρ1 =>
    rw [e1] at h
    simp only [Out.bind_ok] at h
    intro F1 H1 v A1 g1 S1
    refine ⟨F1, ρ1, A1, some x :: κ, some v :: ς, S1, by simp [hl], ?_⟩
    cases e2 : fb ρ1 with
    | stuck => rw [e2] at h; exact h
    | exc x2 ρ' =>
      rw [e2] at h
      intro F' H' A' cls d g2 S' xr
      obtain ⟨A3, S3, sub⟩ := Stt.dropTop (show Stt G F' H' (some x :: (κ ++ ρ')) (some v :: (ς ++ σ)) A' from S')
      exact h F' H' A3 cls d (((g1.trans g2).imp fun z => by cases z).less sub) S3 xr
    | ok y ρ2 =>
      rw [e2] at h
      simp only [Out.bind_ok] at h
      intro F2 H2 u A2 g2 S2
      split at h
      · rename_i i j
        obtain ⟨r2, S3⟩ := S2.pop_v
        obtain ⟨r1, S4⟩ := Stt.pop_v (show Stt G F2 H2 (some (.v (.int i)) :: (κ ++ ρ2)) (some v :: (ς ++ σ)) A2 from S3)
        simp only [Rep] at r1 r2
        subst r1 r2
        refine ⟨i, j, rfl, rfl, _, rfl, ?_⟩
        cases hg : g i j with
        | false =>
          rw [hg] at h
          refine iteF ⟨false, rfl, ?_⟩
          exact h F2 H2 A2 ((g1.trans g2).imp fun z => by simp only [Bool.and_eq_true] at z; simp [z.1, z.2.1]) S4
        | true =>
          rw [hg] at h
          refine iteT ⟨F2, ρ2, A2, κ, ς, S4, hl, ?_⟩
          simp only [if_true] at h
          cases e3 : fc ρ2 with
          | stuck => rw [e3] at h; exact h
          | exc x2 ρ' =>
            rw [e3] at h
            exact fun F' H' A' cls d g3 S' xr => h F' H' A' cls d (((g1.trans g2).trans g3).imp fun z => by cases z) S' xr
          | ok z ρ3 =>
            rw [e3] at h
            simp only [Out.bind_ok] at h
            intro F3 H3 t A3 g3 S5
            split at h
            · rename_i k
              obtain ⟨r3, S6⟩ := S5.pop_v
              simp only [Rep] at r3
              subst r3
              refine ⟨j, k, rfl, rfl, _, rfl, ?_⟩
              exact h F3 H3 A3 (((g1.trans g2).trans g3).imp fun z => by simp only [Bool.and_eq_true] at z; simp [z.1, z.2.1, z.2.2]) S6
            · exact h.elim
      · exact h.elim
theorem sb_chain {op op' : CmpOp} {g g' : Int → Int → Bool} {pa pb pc : Bool} {fa fb fc : M OD} (ho : OpR X (compareOp op) (rI0 fun i j => .bl (g i j))) (ho' : OpR X (compareOp op') (rI0 fun i j => .bl (g' i j))) (ha : SX X G W pa a fa) (hb : SX X G W pb b fb) (hc : SX X G W pc c fc)
    (hm : lastMarks [op, op'] [b, c] = false := by with_unfolding_all rfl) : SB X G W (pa && (pb && pc)) (.Compare a [op, op'] [b, c] pos) (mChain g g' fa fb fc) := PT.of (pt_chain ho ho' ha hb hc hm) fun σ H Q h => chain_run h
/-- bools as values -/
theorem TX.mB {p : Bool} {f : M Bool} {Q : VK} (q : TX G W p (mB f) σ H Q) : TB G W p f σ H fun b H1 => Q (.bl b) H1 := by
  obtain ⟨F, ρ, A, κ, ς, S, hl, q⟩ := q
  refine ⟨F, ρ, A, κ, ς, S, hl, ?_⟩
  unfold Vs.mB at q
  cases e1 : f ρ with
  | stuck => rw [e1] at q; exact q
  | exc x ρ' => rw [e1] at q; exact q
  | ok b ρ' =>
    rw [e1] at q
    simp only [Out.bind_ok] at q
    exact fun F' H' A' g S' => q F' H' (.bl b) A' g (S'.push_v (by simp only [Rep]))
theorem TX.asBb {p : Bool} {f : M OD} {Q : VK} (q : TX G W p (Vs.mB (Vs.asB f)) σ H Q) : TX G W p f σ H fun v H1 => ∃ b, v = .bl b ∧ Q (.bl b) H1 := TX.asB (TX.mB q)
/-- a test that is read as a value -/
abbrev SV (X : Cx) (G : Gx) (W : WX) (p : Bool) (e : Expr) (f : M Bool) : Prop := SX X G W p e (mB f)
/-- a value that is a bool -/
theorem sv_of {p : Bool} {f : M OD} (h : SX X G W p e f) : SV X G W p e (asB f) := PE.of h fun σ H Q q => by
  refine (TX.asBb q).mono ?_
  rintro v H ⟨b, rfl, q⟩
  exact q
theorem sv_chain {op op' : CmpOp} {g g' : Int → Int → Bool} {pa pb pc : Bool} {fa fb fc : M OD} (ho : OpR X (compareOp op) (rI0 fun i j => .bl (g i j))) (ho' : OpR X (compareOp op') (rI0 fun i j => .bl (g' i j))) (ha : SX X G W pa a fa) (hb : SX X G W pb b fb) (hc : SX X G W pc c fc)
    (hm : lastMarks [op, op'] [b, c] = false := by with_unfolding_all rfl) : SV X G W (pa && (pb && pc)) (.Compare a [op, op'] [b, c] pos) (mChain g g' fa fb fc) := PE.of (pe_chain ho ho' ha hb hc hm) fun σ H Q h => by
  have h2 := chain_run (TX.mB h)
  unfold tTest at h2
  have mono : ∀ {Q Q' : VK}, (∀ v H, Q v H → Q' v H) → tChain (rI0 fun i j => .bl (g i j)) (rI0 fun i j => .bl (g' i j)) (TX G W pa fa) (TX G W pb fb) (TX G W pc fc) σ H Q → tChain (rI0 fun i j => .bl (g i j)) (rI0 fun i j => .bl (g' i j)) (TX G W pa fa) (TX G W pb fb) (TX G W pc fc) σ H Q' := by
    intro Q Q' k z
    refine TX.mono z fun x H1 z => TX.mono z fun y H2 z => ?_
    obtain ⟨i, j, e1, e2, b, e3, z⟩ := z
    refine ⟨i, j, e1, e2, b, e3, ?_⟩
    cases b with
    | false => exact iteF (k _ _ (by simpa using z))
    | true =>
      refine iteT ?_
      have z := (show TX G W pc fc σ H2 _ by simpa using z)
      refine TX.mono z fun w H3 z => ?_
      obtain ⟨i, j, e1, e2, z⟩ := z
      exact ⟨i, j, e1, e2, k _ _ z⟩
  refine mono ?_ h2
  rintro v H ⟨b, rfl, q⟩
  exact q
variable {rest : List Expr} {p q : Bool} {f g : M Bool}
theorem sv_not (ha : SV X G W p a f) : SV X G W p (.UnaryOp .Not a pos) (bNot f) := PE.of (pe_not ha) fun σ H Q h => by
  have h1 : TB G W (p && true) (fun ρ => (f ρ).bind fun b ρ' => .ok (!b) ρ') σ H fun b H1 => Q (.bl b) H1 := by rw [Bool.and_true]; exact TX.mB h
  have h2 : TB G W p f σ H fun b H1 => Q (.bl !b) H1 := TB.bind (k := fun b ρ' => .ok (!b) ρ') h1 fun b H1 z => TB.pure z
  exact TX.toB h2
where
  TX.toB {p : Bool} {f : M Bool} {Q : Bool → Hp → Prop} {σ : St} {H : Hp} (q : TB G W p f σ H Q) : TX G W p (Vs.mB f) σ H fun v H1 => ∃ b, v = .bl b ∧ Q b H1 := by
    obtain ⟨F, ρ, A, κ, ς, S, hl, q⟩ := q
    refine ⟨F, ρ, A, κ, ς, S, hl, ?_⟩
    unfold Vs.mB
    cases e1 : f ρ with
    | stuck => rw [e1] at q; exact q
    | exc x ρ' => rw [e1] at q; exact q
    | ok b ρ' =>
      rw [e1] at q
      intro F' H' v A' g S'
      obtain ⟨r, S2⟩ := S'.pop_v
      simp only [Rep] at r
      exact ⟨b, r, q F' H' A' g S2⟩
theorem sv_and1 (ha : SV X G W p a f) : SV X G W p (.BoolOp .And [a] pos) f := pe_one ha
theorem sv_or1 (ha : SV X G W p a f) : SV X G W p (.BoolOp .Or [a] pos) f := pe_one ha
theorem sv_and (ha : SV X G W p a f) (hb : SV X G W q (.BoolOp .And (b :: rest) pos) g) : SV X G W (p && q) (.BoolOp .And (a :: b :: rest) pos) (bAnd f g) := PE.of (pe_and ha hb) fun σ H Q h => by
  have h2 : TB G W p f σ H fun c H1 => if c = true then TX G W q (mB g) σ H1 Q else Q (.bl false) H1 := TB.bind (q := q) (k := fun b ρ' => if b then g ρ' else .ok false ρ') (TX.mB h) fun b H1 z => by
    cases b with
    | true =>
      refine iteT ((sv_not.TX.toB (show TB G W q g σ H1 (fun b H1 => Q (.bl b) H1) from by simpa using z)).mono ?_)
      rintro v H ⟨b, rfl, q⟩
      exact q
    | false => exact iteF (TB.pure (p := q) (show TB G W q (fun ρ => .ok false ρ) σ H1 (fun b H1 => Q (.bl b) H1) from by simpa using z))
  exact sv_not.TX.toB h2
theorem sv_or (ha : SV X G W p a f) (hb : SV X G W q (.BoolOp .Or (b :: rest) pos) g) : SV X G W (p && q) (.BoolOp .Or (a :: b :: rest) pos) (bOr f g) := PE.of (pe_or ha hb) fun σ H Q h => by
  have h2 : TB G W p f σ H fun c H1 => if c = true then Q (.bl true) H1 else TX G W q (mB g) σ H1 Q := TB.bind (q := q) (k := fun b ρ' => if b then .ok true ρ' else g ρ') (TX.mB h) fun b H1 z => by
    cases b with
    | false =>
      refine iteF ((sv_not.TX.toB (show TB G W q g σ H1 (fun b H1 => Q (.bl b) H1) from by simpa using z)).mono ?_)
      rintro v H ⟨b, rfl, q⟩
      exact q
    | true => exact iteT (TB.pure (p := q) (show TB G W q (fun ρ => .ok true ρ) σ H1 (fun b H1 => Q (.bl b) H1) from by simpa using z))
  exact sv_not.TX.toB h2
/-- x if c else y -/
theorem TX.if {pc p q r : Bool} {fc : M Bool} {f g : M OD} {Q : VK} (hp : r = true → pc = true ∧ p = true ∧ q = true) (h : TX G W r (mIf fc f g) σ H Q) : TB G W pc fc σ H fun c H1 => if c = true then TX G W p f σ H1 Q else TX G W q g σ H1 Q := by
  obtain ⟨F, ρ, A, κ, ς, S, hl, h⟩ := h
  refine ⟨F, ρ, A, κ, ς, S, hl, ?_⟩
  unfold mIf at h
  cases e1 : fc ρ with
  | stuck => rw [e1] at h; exact h
  | exc x ρ' => rw [e1] at h; exact h
  | ok b ρ1 =>
    rw [e1] at h
    simp only [Out.bind_ok] at h
    intro F1 H1 A1 g1 S1
    have part : ∀ {p : Bool} {f : M OD}, (r = true → p = true) → (Pst G W r (f ρ1) F H A κ ς σ fun od ρ' => ∀ F' H' v A', Go r F H A F' H' A' → Stt G F' H' (some od :: (κ ++ ρ')) (some v :: (ς ++ σ)) A' → Q v H') → TX G W p f σ H1 Q := by
      intro p f hp2 h
      refine ⟨F1, ρ1, A1, κ, ς, S1, hl, ?_⟩
      cases e2 : f ρ1 with
      | stuck => rw [e2] at h; exact h
      | exc x ρ' => rw [e2] at h; exact fun F' H' A' cls d g2 S' xr => h F' H' A' cls d ((g1.trans g2).imp fun z => by cases z) S' xr
      | ok od ρ2 => rw [e2] at h; exact fun F' H' v A' g2 S' => h F' H' v A' ((g1.trans g2).imp fun z => by simp [(hp z).1, hp2 z]) S'
    cases b with
    | true => exact iteT (part (fun z => (hp z).2.1) (by simpa using h))
    | false => exact iteF (part (fun z => (hp z).2.2) (by simpa using h))
theorem sx_if {pc p q : Bool} {fc : M Bool} {f g : M OD} (hc : SB X G W pc c fc) (ha : SX X G W p a f) (hb : SX X G W q b g) : SX X G W (pc && (p && q)) (.IfExp c a b pos) (mIf fc f g) := PE.of (pe_ifExp hc ha hb) fun σ H Q h => TX.if (fun z => by simpa using z) h
end
/-! ### the names of the module -/
def GCon (G : Gx) (x : Str) (d : D) : Prop := ∃ v u, G.mg x = some u ∧ RelV v u ∧ ∀ F, Rep G F d v
structure Cal (P : Program) (w : World) (G : Gx) (base : Heap) (k : Nat) (x : Str) (ps : List Str) (f : FnM) : Prop where
  ex : ∃ fa fd, G.mg x = some (.ref fa) ∧ PySem.W.keepIn G.K (.ref fa) = true ∧ Binds G.K fd ps [] ∧ FnOk P w G.K G.mg base (L2.CX P w) k fa fd ps (spOf G f)
section
variable {G : Gx} {W : WX} {X : Cx} {k j : Nat} {x : Str} {p pos : Pos} {e : Expr} {es : List Expr} {as : List Opd} {f : FnM} {ps : List Str} {d : D}
theorem sx_glob (c : GCon G x d) (hK : G.K = X.K) (hM : G.mg = X.mg) (hg : Gl X x := by rfl) (hd : (x == ("__debug__" : Str)) = false := by decide) : SX X G W true (.Name x pos) (mC d) := by
  obtain ⟨v, u, hm, r, h⟩ := c
  rw [hM] at hm
  exact sx_c (pe_glob hg hm r hd) h
theorem Cal.mono {P : Program} {w : World} {base : Heap} (c : Cal P w G base j x ps f) (h : j ≤ k) : Cal P w G base k x ps f := by
  obtain ⟨fa, fd, a, b, e, g⟩ := c.ex
  exact ⟨fa, fd, a, b, e, g.mono h⟩
theorem sx_cal (c : Cal X.prog X.w G X.base j x ps f) (hK : G.K = X.K) (hM : G.mg = X.mg) (hr : Room k X.A) (tk : Takes X W) (ha : PA X (e :: es) (tAll G W as)) (hj : j ≤ k := by decide) (hg : Gl X x := by rfl) (hdb : (x == ("__debug__" : Str)) = false := by decide)
    (he : starEach (e :: es) X.env = (false, eval e X.env) :: starEach es X.env := by rfl) (hpl : (backTo pos (starEach es X.env)).any (·.1) = false := by rfl) :
    SX X G W (pAll as && noPlc as) (.Call (.Name x p) (e :: es) [] pos) (mCall f as) := by
  obtain ⟨fa, fd, a, b, c, g⟩ := c.ex
  rw [hK, hM] at g
  rw [hM] at a
  rw [hK] at b c
  exact sx_call (g.mono hj) hr hg a b c tk ha hdb he hpl
theorem sx_cal0 (c : Cal X.prog X.w G X.base j x ps f) (hK : G.K = X.K) (hM : G.mg = X.mg) (hr : Room k X.A) (tk : Takes X W) (hj : j ≤ k := by decide) (hg : Gl X x := by rfl) (hdb : (x == ("__debug__" : Str)) = false := by decide) :
    SX X G W true (.Call (.Name x p) [] [] pos) (mCall f []) := by
  obtain ⟨fa, fd, a, b, c, g⟩ := c.ex
  rw [hK, hM] at g
  rw [hM] at a
  rw [hK] at b c
  constructor
  intro pins s σ H Q I h
  refine wpAny_Call_Name_kw (ld_glob I hg a ?_ hdb)
  exact PySem.W.callWith_K0 I.kIn b (run_fnS (us := []) (vs := []) (g.mono hj) hr c (passAt tk σ) I .nil (calls_run (as := []) (fun _ _ _ z => z) h))
/-- THE RULE for a def of the module's top, by its row -/
theorem fnv_ok {P : Program} {w : World} {base : Heap} {qual : Str} {params : Arguments} {body : List Stmt} {scope : Scope} {fa : Addr} {fd : FuncData} {N : List Str} {mask : List Bool} {m : SM} (Fn : FunD G.K x qual params body scope [] [] fa fd) (S : FnScope N ps scope)
    (hm : mask.length = ps.length)
    (hb : ∀ (cdv : Value) (A : Around) (outer : List PySem.Env) (s : Shared) (H : Hp) (E : XK), Room k (A.deeper (PyProof.Rows.envOfC qual scope s.heap.objs.size fa cdv)) →
      SSs (cxOf (L2.CX P w) P w G.K G.mg base N qual scope fa cdv A outer s H E) G (fun cls d _ H => E cls d H) (pnOf mask 0) body m) :
    FnOk P w G.K G.mg base (L2.CX P w) (k + 1) fa fd ps (spOf G (defM N.length mask m)) := by
  obtain ⟨oc, od, dV, kV, doc, pm, an, cdv, ct, osl, h1, lk, hcd, hD, _⟩ := Fn.ex
  rcases hD with ⟨_, rfl⟩ | ⟨e, _⟩
  · exact def_ok (st := .FunctionDef x params body [] none [] scope none x ⟨0, 0, 0, 0⟩) ⟨⟨oc, od, kV, doc, pm, an, cdv, ct, osl, h1, lk, hcd⟩, Fn.kp⟩ S hm hb
  · exact absurd rfl e
theorem cal_ok {P : Program} {w : World} {base : Heap} {qual : Str} {params : Arguments} {body : List Stmt} {scope : Scope} {fa : Addr} {fd : FuncData} {N : List Str} {mask : List Bool} {m : SM} (Fn : FunD G.K x qual params body scope [] [] fa fd) (hx : G.mg x = some (.ref fa)) (S : FnScope N ps scope)
    (hm : mask.length = ps.length) (hbi : ∀ (kV doc pm : Value) (an : Option Addr) (cdv ct : Value) (us : List Value), us.length = ps.length → bindArgs (PySem.W.fnOf x qual params body scope .none kV doc pm an cdv ct) ⟨us, []⟩ = pure (ps.zip us))
    (hb : ∀ (cdv : Value) (A : Around) (outer : List PySem.Env) (s : Shared) (H : Hp) (E : XK), Room k (A.deeper (PyProof.Rows.envOfC qual scope s.heap.objs.size fa cdv)) →
      SSs (cxOf (L2.CX P w) P w G.K G.mg base N qual scope fa cdv A outer s H E) G (fun cls d _ H => E cls d H) (pnOf mask 0) body m) :
    Cal P w G base (k + 1) x ps (defM N.length mask m) := ⟨fa, fd, hx, Fn.kp, Fn.bindsN hbi, fnv_ok Fn S hm hb⟩
end
end Vs

/-! VsJ: the head by a Hook, the module's constants, the end. -/
namespace Vs
open PySem L2 PySem.Spec PyProof.Rows
/-! ### constants of the module: what never changes -/
mutual
def conB (K : PySem.W.Frag) : D → Value → Bool
  | .non, .none => true
  | .bl b, .bool c => b == c
  | .int i, .int j _ => decide (i = j)
  | .str x, .str y _ => decide (x = y)
  | .tup ds, .ref a => match K.lookup a with
    | some ⟨.type c, _, .seq its _, _⟩ => decide (c = "tuple") && (decide (its.size ≤ sizeLine) && consB K ds its.toList)
    | _ => false
  | .rol ds, .ref a => match K.lookup a with
    | some ⟨.type c, none, .seq its _, _⟩ => decide (c = "list") && (decide (its.size ≤ sizeLine) && consB K ds its.toList)
    | _ => false
  | _, _ => false
def consB (K : PySem.W.Frag) : List D → List Value → Bool
  | [], [] => true
  | d :: ds, u :: us => conB K d u && consB K ds us
  | _, _ => false
end
mutual
theorem conB_ok {G : Gx} : ∀ {d : D} {u : Value}, conB G.K d u = true → ∃ v, RelV v u ∧ ∀ F, Rep G F d v
  | .non, u, h => by
    cases u <;> simp [conB] at h
    exact ⟨.non, rfl, fun F => by simp only [Rep]⟩
  | .bl b, u, h => by
    cases u <;> simp [conB] at h
    exact ⟨.bl b, by rw [h]; rfl, fun F => by simp only [Rep]⟩
  | .int i, u, h => by
    cases u <;> simp [conB] at h
    exact ⟨.int i, by rw [h]; exact ⟨_, rfl⟩, fun F => by simp only [Rep]⟩
  | .str x, u, h => by
    cases u <;> simp [conB] at h
    exact ⟨.str x, by rw [h]; exact ⟨_, rfl⟩, fun F => by simp only [Rep]⟩
  | .tup ds, u, h => by
    cases u with
    | ref a =>
      simp only [conB] at h
      split at h
      · rename_i c od its n osl e
        simp only [Bool.and_eq_true, decide_eq_true_eq] at h
        obtain ⟨vs, hv, hr⟩ := consB_ok (G := G) h.2.2
        exact ⟨.ref a, rfl, fun F => by simp only [Rep]; exact ⟨a, vs, rfl, .inr ⟨_, its, n, e, congrArg Value.type h.1, rfl, h.2.1, hv⟩, hr F⟩⟩
      · cases h
    | _ => simp [conB] at h
  | .rol ds, u, h => by
    cases u with
    | ref a =>
      simp only [conB] at h
      split at h
      · rename_i c its n osl e
        simp only [Bool.and_eq_true, decide_eq_true_eq] at h
        obtain ⟨vs, hv, hr⟩ := consB_ok (G := G) h.2.2
        exact ⟨.ref a, rfl, fun F => by simp only [Rep]; exact ⟨a, vs, rfl, .inr ⟨_, its, n, e, congrArg Value.type h.1, rfl, rfl, h.2.1, hv⟩, hr F⟩⟩
      · cases h
    | _ => simp [conB] at h
  | .lst ds, u, h => by simp [conB] at h
  | .dk ks ds, u, h => by simp [conB] at h
  | .ins c fs ds, u, h => by simp [conB] at h
theorem consB_ok {G : Gx} : ∀ {ds : List D} {us : List Value}, consB G.K ds us = true → ∃ vs, Vals vs us ∧ ∀ F, Reps G F ds vs
  | [], us, h => by
    cases us <;> simp [consB] at h
    exact ⟨[], .nil, fun F => by simp only [Reps]⟩
  | d :: ds, us, h => by
    cases us with
    | nil => simp [consB] at h
    | cons u us =>
      simp only [consB, Bool.and_eq_true] at h
      obtain ⟨v, h1, h2⟩ := conB_ok h.1
      obtain ⟨vs, h3, h4⟩ := consB_ok h.2
      exact ⟨v :: vs, .cons h1 h3, fun F => by simp only [Reps]; exact ⟨v, vs, rfl, h2 F, h4 F⟩⟩
end
/-- the module's name x stands for d -/
def nsB (K : PySem.W.Frag) (x : Str) (d : D) : Bool := match PySem.W.nsIn K mainGlobals x with
  | some (some u) => conB K d u
  | _ => false
/-! ### exception classes -/
inductive XF where
  | exc (x : Str)
  | rel (x y : Str) (b : Bool)
  /-- x has an own __init__, the def d, that keeps the field f; file: the file that its code tells -/
  | exA (x f : Str) (d : He.DefD) (file : Str)
def excB (K : PySem.W.Frag) (D : Addr) : Bool := He.eqO (PySem.W.findIn K (.ref D) "__getattribute__") (some (some (.builtin "BaseException.__getattribute__"))) && (He.eqO (PySem.W.findIn K (.ref D) "__getattr__") (some none) && (decide (PySem.W.subIn K (.ref D) (.type "BaseException") = some true) && (PySem.W.hasDictIn K D &&
  (He.eqO (PySem.W.findIn K (.ref D) "__class__") (some (some (.builtin "object.__class__"))) && (He.eqO (PySem.W.specialIn K (.builtin "object.__class__") "__get__") (some (some (.builtin "getset_descriptor.__get__"))) && (decide (PySem.W.takesIn K (.builtin "object.__class__") = some true) && decide (PySem.W.mroIn K D (.type "object") = some true)))))))
theorem excB_ok {K : PySem.W.Frag} {D : Addr} (h : excB K D = true) : ExcC K D := by
  unfold excB at h
  simp only [Bool.and_eq_true, decide_eq_true_eq] at h
  obtain ⟨h1, h2, h3, h4, h5, h6, h7, h8⟩ := h
  exact ⟨He.eqO_ok h1, He.eqO_ok h2, h3, h4, He.eqO_ok h5, He.eqO_ok h6, h7, h8⟩
/-- the class's object -/
def supCB (K : PySem.W.Frag) (C : Addr) : Bool := match K.lookup C with
  | some ⟨oc, _, .cls ⟨_, _, .ref D :: bm, _, _, hdct, _, _, _, _, del⟩, ⟨[_, _, _, _, some (.builtin nw), _]⟩⟩ =>
    decide (oc = .type "type") && (decide (D = C) && (hdct && (!del && (decide (nw = "ValueError.__new__") && (PySem.HandSPX.refsVE bm && He.eqO (PySem.W.alongIn K "__init__" bm) (some (some (.builtin "ValueError.__init__"))))))))
  | _ => false
/-- its __init__'s code and cell -/
def supIB (K : PySem.W.Frag) (C fI : Addr) (q file : Str) : Bool := match K.lookup fI with
  | some ⟨_, _, .func fd, _⟩ => PySem.W.codeIn K fd.code q && ((match fd.code with
    | .ref c => (match K.lookup c with
      | some ⟨_, _, .fields vs, _⟩ => (match (vs[2]? : Option Value) with
        | some (Value.str s _) => decide (s = file)
        | _ => false)
      | _ => false)
    | _ => false) && (match fd.closure with
    | [(_, cc)] => (match K.lookup cc with
      | some ⟨_, _, .cell (some (.ref D)), _⟩ => decide (D = C)
      | _ => false)
    | _ => false) && (match fd.defaults with
    | .none => true
    | _ => false))
  | _ => false
def exAB (K : PySem.W.Frag) (x f : Str) (d : He.DefD) (file : Str) : Bool := (He.Fa.glo x).ok K && (excB K (He.ga K x) && (supCB K (He.ga K x) && (supIB K (He.ga K x) (He.ma K (He.ga K x) "__init__") d.qual file &&
  (He.eqO (PySem.W.findIn K (.ref (He.ga K x)) "__setattr__") (some (some (.builtin "object.__setattr__"))) && (He.eqO (PySem.W.findIn K (.ref (He.ga K x)) f) (some none) && (decide (PySem.W.subIn K (.ref (He.ga K x)) (.type "ValueError") = some true) &&
  (decide (PySem.W.typeIn K (.ref (He.ga K x)) = some (.type "type")) && (PySem.W.keepIn K (.ref (He.ga K x)) && (decide (PySem.W.mroIn K (He.ga K x) (.ref (He.ga K x)) = some true) && (He.eqO (PySem.W.nsIn K cStatics "thirdparty.any") (some none) &&
  (He.eqO (PySem.W.findIn K (.ref (He.ga K x)) "__init__") (some (some (.ref (He.ma K (He.ga K x) "__init__")))) && (decide (PySem.W.typeIn K (.ref (He.ma K (He.ga K x) "__init__")) = some (.type "function")) && He.eqO (PySem.W.nsIn K mainGlobals "super") (some none)))))))))))))
abbrev FnI : Type := Option (Str × Str × Arguments × FuncBody × Scope × Addr × List Str × Addr)
/-- the __init__ as it stands -/
def XF.fnI (K : PySem.W.Frag) : XF → FnI
  | .exA x _ _ _ => (match K.lookup (He.ma K (He.ga K x) "__init__") with
    | some ⟨_, _, .func fd, _⟩ => some (fd.name, fd.qualname, fd.params, fd.body, fd.scope, fd.globals, fd.closure.map Prod.fst, fd.builtins)
    | _ => none)
  | _ => none
def XF.valI : XF → FnI
  | .exA _ _ d _ => some (d.name, d.qual, d.params, .stmts d.body, d.scope, mainGlobals, ["__class__"], builtinsNs)
  | _ => none
def XF.ok (K : PySem.W.Frag) : XF → Bool
  | .exA x f d file => exAB K x f d file
  | .exc x => (He.Fa.glo x).ok K && ((He.Fa.exc x).ok K && excB K (He.ga K x))
  | .rel x y b => decide (PySem.W.exmOne K (.ref (He.ga K x)) (.ref (He.ga K y)) = some b) && decide (PySem.W.kitOne K (.ref (He.ga K x)) (.ref (He.ga K y)) = some b)
/-! ### the Hook -/
abbrev AlV := He.AlD × (Bool × List FnI)
def asV (g : Addr → Option Obj) (n : Nat) : List Addr := cStatics :: He.asD g n
def obsV (n : Nat) (fa : List He.Fa) (fn : List He.DefD) (cs : List (Str × D)) (xf : List XF) (g : Addr → Option Obj) : AlV :=
  (He.obsD fa fn (He.frG g (asV g n)), ((cs.all fun p => nsB (He.frG g (asV g n)) p.1 p.2) && xf.all fun p => p.ok (He.frG g (asV g n))), xf.map (XF.fnI (He.frG g (asV g n))))
def hookV (n : Nat) (fa : List He.Fa) (fn : List He.DefD) (cs : List (Str × D)) (xf : List XF) : PySem.W.Hook where
  α := AlV
  obs := fun s => obsV n fa fn cs xf s.heap.get?
  val := fun _ => (He.valD fn, true, xf.map XF.valI)
  says := fun _ h => ∃ K : PySem.W.Frag, K.In h ∧ He.SaysD fa fn K ∧ ((cs.all fun p => nsB K p.1 p.2) && xf.all fun p => p.ok K) = true ∧ xf.map (XF.fnI K) = xf.map XF.valI
  of := fun _ _ e => ⟨_, He.frG_in, congrArg (fun z : AlV => z.1) e, congrArg (fun z : AlV => z.2.1) e, congrArg (fun z : AlV => z.2.2) e⟩
  keeps := fun _ _ _ ⟨K, hK, c⟩ k => ⟨K, PySem.W.Frag.In.keeps hK k, c⟩
theorem obsV_eq {n : Nat} {fa : List He.Fa} {fn : List He.DefD} {cs : List (Str × D)} {xf : List XF} {g : Addr → Option Obj} {s : Shared} (h : ∀ a, g a = s.heap.get? a) : obsV n fa fn cs xf g = (hookV n fa fn cs xf).obs s := by
  have e : g = s.heap.get? := funext h
  rw [e] <;> rfl
/-- what is known of the module -/
structure Hd (fa : List He.Fa) (fn : List He.DefD) (cs : List (Str × D)) (xf : List XF) (G : Gx) : Prop where
  says : He.SaysD fa fn G.K
  both : ((cs.all fun p => nsB G.K p.1 p.2) && xf.all fun p => p.ok G.K) = true
  ini : xf.map (XF.fnI G.K) = xf.map XF.valI
  at_ : ∃ h : Heap, G.K.In h ∧ h.Ns mainGlobals G.mg
section
variable {fa : List He.Fa} {fn : List He.DefD} {cs : List (Str × D)} {xf : List XF} {G : Gx}
theorem Hd.glo (h : Hd fa fn cs xf G) (i : Nat) {x : Str} (e : fa[i]? = some (.glo x) := by rfl) : G.mg x = some (.ref (He.ga G.K x)) := by
  obtain ⟨p, X, N⟩ := h.at_
  exact He.glo_ok X N (h.says.fact i e)
theorem Hd.free (h : Hd fa fn cs xf G) (i : Nat) {x : Str} (e : fa[i]? = some (.free x) := by rfl) : G.mg x = none := by
  obtain ⟨p, X, N⟩ := h.at_
  exact He.free_ok X N (h.says.fact i e)
theorem Hd.con (h : Hd fa fn cs xf G) (i : Nat) {x : Str} {d : D} (e : cs[i]? = some (x, d) := by rfl) : GCon G x d := by
  obtain ⟨p, X, N⟩ := h.at_
  have h2 : nsB G.K x d = true := List.all_eq_true.mp (He.ba h.both).1 (x, d) (List.mem_of_getElem? e)
  unfold nsB at h2
  split at h2
  · rename_i u q
    obtain ⟨v, h3, h4⟩ := conB_ok h2
    exact ⟨v, u, PySem.W.mg_of X N q, h3, h4⟩
  · cases h2
/-- what is known of an exception class -/
structure Exn (G : Gx) (x : Str) (C : Addr) : Prop where
  m : G.mg x = some (.ref C)
  q : PySem.W.excIn G.K C He.veBase "ValueError.__new__" = true
  k : PySem.W.keepIn G.K (.ref C) = true
  s : PySem.W.subIn G.K (.ref C) (.type "BaseException") = some true
  t : PySem.W.typeIn G.K (.ref C) = some (.type "type")
  c : ExcC G.K C
theorem Hd.exn (h : Hd fa fn cs xf G) (i : Nat) {x : Str} (e : xf[i]? = some (.exc x) := by rfl) : Exn G x (He.ga G.K x) := by
  obtain ⟨p, X, N⟩ := h.at_
  have h2 : (XF.exc x).ok G.K = true := List.all_eq_true.mp (He.ba h.both).2 _ (List.mem_of_getElem? e)
  obtain ⟨h3, h4⟩ := He.ba h2
  obtain ⟨h4, h5⟩ := He.ba h4
  obtain ⟨q1, q2, q3, q4⟩ := He.exc_ok h4
  exact ⟨He.glo_ok X N h3, q1, q2, q3, q4, excB_ok h5⟩
theorem Hd.rel (h : Hd fa fn cs xf G) (i : Nat) {x y : Str} {b : Bool} (e : xf[i]? = some (.rel x y b) := by rfl) : PySem.W.exmOne G.K (.ref (He.ga G.K x)) (.ref (He.ga G.K y)) = some b ∧ PySem.W.kitOne G.K (.ref (He.ga G.K x)) (.ref (He.ga G.K y)) = some b := by
  have h2 : (XF.rel x y b).ok G.K = true := List.all_eq_true.mp (He.ba h.both).2 _ (List.mem_of_getElem? e)
  obtain ⟨h3, h4⟩ := He.ba h2
  exact ⟨of_decide_eq_true h3, of_decide_eq_true h4⟩
end
theorem walk_V {l : PySem.W.OpenLaw} {n k : Nat} {q : Program} {loose : List Str} {XP : (Str → Option Value) → Heap → Prop} {YP : World → Heap → Prop} {d : DefRec} {x y : Str}
    (hn : l.most = some n) (hn2 : n ≤ sizeLine) (hdf : d.params.defaults = []) (hr : Room k callerA) (hd : d.name = y)
    (F : ∀ (w : World) (mg : Str → Option Value) (h : Heap), YP w h → h.Ns mainGlobals mg →
      ∃ (K : PySem.W.Frag) (f : FnM) (fd : FuncData) (fa : Addr), K.In h ∧ mg y = some (.ref fa) ∧ (∀ (s : Shared) (u : Value), BindsTo s fd ⟨[u], []⟩ [(x, u)]) ∧ (∀ ns : List Int, ns.length ≤ n → ∃ bk, f [.v (.rol (ns.map .int))] = .ok (.v (.bl true)) bk) ∧
        ∀ base : Heap, K.In base → base.Ns mainGlobals mg → FnOk l.prog w K mg base (L2.CX l.prog w) k fa fd [x] (spOf ⟨K, mg, 0, none⟩ f)) :
    PySem.W.WalkO q loose XP YP l.row.toRowW d [] (fun f vs => PySem.call f vs) := by
  refine Att.attach_call hn hdf fun w s₀ s₁ mg mb fa o pm cd doc a vs ns G Y ho hd' hcd hmg hobj hints hlen hg => ?_
  obtain ⟨K, f, fd, fa2, KX, e2, hb, hl, hF⟩ := F w mg _ Y G.T.g
  rw [hd, e2] at hmg
  obtain rfl : fa2 = fa := by injection hmg with z; injection z
  refine law_call KX G.T.g G.T.b G.T.builtins G.T.nolimit hg hobj hints (Nat.le_trans hlen hn2) hr hF hb (fun H hO hS => ?_) fun H e s' z => ?_
  · obtain ⟨bk, e⟩ := hl ns hlen
    refine ⟨H, [.v (.rol (ns.map .int))], fun _ => False, ⟨.refl _, ?_, fun _ (z : False) => z.elim⟩, ?_⟩
    · simp only [List.map_cons, List.map_nil, Sl, OT, Rep]
      refine ⟨.ref a, [], fun _ => False, fun _ => False, rfl, ⟨⟨a, ns.map V.int, rfl, hS, ?_⟩, fun _ z => z⟩, ⟨rfl, fun _ z => z⟩, ⟨fun _ => ⟨fun z => z.elim, fun z => z.elim id id⟩, fun _ z => z.elim⟩⟩
      exact .map fun i _ => by simp only [Rep]
    · rw [e]
      intro F' H' v A' g S
      obtain ⟨r, _⟩ := S.pop_v
      simpa only [Rep] using r
  · obtain ⟨_, _, _, _, _, _, _, _, _, _, _, _, z⟩ := z
    exact z.elim
end Vs

/-! VsK: the rules in short, for printed derivations. -/
namespace Vs
open PySem L2 PySem.Spec PyProof.Rows
/-- what every rule asks of the context; bb: calls and loops may stand there (no except suite) -/
structure Ok (X : Cx) (G : Gx) (W : WX) (k : Nat) (bb : Bool) : Prop where
  gK : G.K = X.K
  gm : G.mg = X.mg
  u64 : X.A.units + 64 < cLine
  t : Takes X W
  n : X.N.Nodup
  rr : bb = true → Room k X.A
  cc : bb = true → X.calm = true
section
variable {X : Cx} {G : Gx} {W : WX} {k : Nat} {bb : Bool}
theorem Ok.m (K : Ok X G W k bb) {x : Str} {v : Option Value} (h : G.mg x = v) : X.mg x = v := by rw [K.gm] at h; exact h
theorem Ok.u1 (K : Ok X G W k bb) : X.A.units + 1 < cLine := by have := K.u64; omega
theorem Ok.r (K : Ok X G W k true) : Room k X.A := K.rr rfl
theorem Ok.c (K : Ok X G W k true) : X.calm = true := K.cc rfl
end
/-- in a def's body -/
theorem ok_cx {P : Program} {w : World} {G : Gx} {base : Heap} {N : List Str} {qual : Str} {scope : Scope} {f : Addr} {cdv : Value} {A : Around} {outer : List PySem.Env} {s : Shared} {H : Hp} {E : XK} {k : Nat}
    (hr : Room k (A.deeper (envOfC qual scope s.heap.objs.size f cdv))) (hN : N.Nodup) : Ok (cxOf (L2.CX P w) P w G.K G.mg base N qual scope f cdv A outer s H E) G (fun cls d _ H => E cls d H) k true :=
  ⟨rfl, rfl, hr.units, takes_of rfl rfl rfl rfl, hN, fun _ => hr, fun _ => rfl⟩
theorem po_cx {P : Program} {w : World} {G : Gx} {base : Heap} {N : List Str} {qual : Str} {scope : Scope} {f : Addr} {cdv : Value} {A : Around} {outer : List PySem.Env} {s : Shared} {H : Hp} {E : XK} :
    PassesOwn (model (cxOf (L2.CX P w) P w G.K G.mg base N qual scope f cdv A outer s H E).prog (cxOf (L2.CX P w) P w G.K G.mg base N qual scope f cdv A outer s H E).w) (cxOf (L2.CX P w) P w G.K G.mg base N qual scope f cdv A outer s H E).A (cxOf (L2.CX P w) P w G.K G.mg base N qual scope f cdv A outer s H E).env (cxOf (L2.CX P w) P w G.K G.mg base N qual scope f cdv A outer s H E).xe := passes_of rfl
/-- in a comprehension -/
theorem Ok.blk {X : Cx} {G : Gx} {W : WX} {k : Nat} {bb : Bool} (K : Ok X G W k bb) (s : Shared) (H : Hp) (scope : Scope) (cl : List (Str × Addr)) (C : Addr) (fp : List Addr) : Ok (X.blk s H scope (compEnvC scope cl C X.env) fp) G W0 k bb :=
  ⟨K.gK, K.gm, K.u64, takes0, K.n, K.rr, K.cc⟩
section
variable {G : Gx} {W : WX} {X : Cx} {k : Nat} {bb : Bool} {e a b c : Expr} {es : List Expr} {oa ob oc : Opd} {pos p q : Pos} {x : Str}
theorem e_int {i : Int} {j} : SX X G W true (.Constant (.int i) j pos) (mC (.int i)) := sx_c pe_int fun F => by simp only [Rep]
theorem e_str {i : Str} {j} : SX X G W true (.Constant (.str i) j pos) (mC (.str i)) := sx_c pe_str fun F => by simp only [Rep]
theorem e_bl {i : Bool} {j} : SX X G W true (.Constant (.bool i) j pos) (mC (.bl i)) := sx_c pe_bl fun F => by simp only [Rep]
theorem e_non {j} : SX X G W true (.Constant .none j pos) (mC .non) := sx_c pe_non fun F => by simp only [Rep]
theorem e_var (i : Nat) (hN : X.N[i]? = some x := by rfl) (hv : Vis X.env.scope x := by first | exact Or.inl rfl | exact Or.inr (Or.inl rfl) | exact Or.inr (Or.inr rfl)) (hd : (x == ("__debug__" : Str)) = false := by decide)
    (hcd : (x == ("__classdict__" : Str)) = false := by decide) : SX X G W true (.Name x pos) (mVar i) := sx_var (pe_var hN hv hd hcd)
theorem e_mv (i : Nat) (hN : X.N[i]? = some x := by rfl) (hv : Vis X.env.scope x := by first | exact Or.inl rfl | exact Or.inr (Or.inl rfl) | exact Or.inr (Or.inr rfl)) (hd : (x == ("__debug__" : Str)) = false := by decide)
    (hcd : (x == ("__classdict__" : Str)) = false := by decide) : SX X G W true (.Name x pos) (mMv i) := sx_mv (pe_var hN hv hd hcd)
theorem o_p (i : Nat) (hN : X.N[i]? = some x := by rfl) (hv : Vis X.env.scope x := by first | exact Or.inl rfl | exact Or.inr (Or.inl rfl) | exact Or.inr (Or.inr rfl)) (hd : (x == ("__debug__" : Str)) = false := by decide)
    (hcd : (x == ("__classdict__" : Str)) = false := by decide) : SO X G W (.Name x pos) (.plc i) := so_plc (pe_var hN hv hd hcd)
theorem o_v {p : Bool} {f : M OD} (h : SX X G W p e f) : SO X G W e (.val p f) := h
theorem e_glob {d : D} (K : Ok X G W k bb) (c : GCon G x d) (hg : Gl X x := by rfl) (hd : (x == ("__debug__" : Str)) = false := by decide) : SX X G W true (.Name x pos) (mC d) := sx_glob c K.gK K.gm hg hd
/-! operators -/
def opSub (xs : List D) : Option OD := (dI (· - ·) xs).map .v
def opMul (xs : List D) : Option OD := (dIc CMul (· * ·) xs).map .v
def opFdv (xs : List D) : Option OD := (dIc CDivN Int.fdiv xs).map .v
def opMod (xs : List D) : Option OD := (dIc (fun _ j => j ≠ 0) Int.fmod xs).map .v
def opPow (xs : List D) : Option OD := (dIc CPow (fun i j => i ^ j.toNat) xs).map .v
def dSB (g : Str → Str → Bool) : List D → Option D
  | [.str i, .str j] => some (.bl (g i j))
  | _ => none
theorem rn_SB {g : Str → Str → Bool} : RN G (RV2 fun x y H Q => ∃ i j, x = .str i ∧ y = .str j ∧ Q (.bl (g i j)) H) (fun xs => (dSB g xs).map .v) := rn_s fun F H xs vs z Q le hr ez k => by
  unfold dSB at ez
  split at ez
  · rename_i x y
    cases ez
    obtain ⟨v, w, rfl, h1, h2⟩ := hr.two
    exact ⟨x, y, repB_str h1, repB_str h2, k _ (by simp only [Rep])⟩
  · cases ez
theorem RN.or2 {r r' : R2} {op op' : List D → Option OD} (h : RN G (RV2 r) op) (h' : RN G (RV2 r') op') : RN G (RV2 fun x y H Q => r x y H Q ∨ r' x y H Q) (fun xs => (op xs).or (op' xs)) := fun F H xs vs z Q le hr ez k => by
  have t := RN.or h h' F H xs vs z Q le hr ez k
  match vs, t with
  | [x, y], t => exact t
  | [], t => exact t.elim id id
  | [_], t => exact t.elim id id
  | _ :: _ :: _ :: _, t => exact t.elim id id
def opLt (xs : List D) : Option OD := ((dIB (fun i j => decide (i < j)) xs).map .v).or ((dSB (fun i j => decide (i.cps.toList < j.cps.toList)) xs).map .v)
def opLe (xs : List D) : Option OD := ((dIB (fun i j => decide (i ≤ j)) xs).map .v).or ((dSB (fun i j => !decide (j.cps.toList < i.cps.toList)) xs).map .v)
def opGt (xs : List D) : Option OD := (dIB (fun i j => decide (j < i)) xs).map .v
def opGe (xs : List D) : Option OD := (dIB (fun i j => decide (j ≤ i)) xs).map .v
def opIsN (xs : List D) : Option OD := (dIsN xs).map .v
def opNotN (xs : List D) : Option OD := (dNotN xs).map .v
def opNeg (xs : List D) : Option OD := (dNeg xs).map .v
theorem e_add (K : Ok X G W k bb) (ha : SO X G W a oa) (hb : SO X G W b ob) : SX X G W (pAll [oa, ob]) (.BinOp a .Add b pos) (mApp opAdd [oa, ob]) := sx_bin op_addA (rn_addA K.gK) ha hb
theorem e_sub (K : Ok X G W k bb) (ha : SO X G W a oa) (hb : SO X G W b ob) : SX X G W (pAll [oa, ob]) (.BinOp a .Sub b pos) (mApp opSub [oa, ob]) := sx_bin op_sub rn_I ha hb
theorem e_mul (K : Ok X G W k bb) (ha : SO X G W a oa) (hb : SO X G W b ob) : SX X G W (pAll [oa, ob]) (.BinOp a .Mult b pos) (mApp opMul [oa, ob]) := sx_bin op_mul rn_Ic ha hb
theorem e_fdv (K : Ok X G W k bb) (ha : SO X G W a oa) (hb : SO X G W b ob) : SX X G W (pAll [oa, ob]) (.BinOp a .FloorDiv b pos) (mApp opFdv [oa, ob]) := sx_bin op_fdivN rn_Ic ha hb
theorem e_mod (K : Ok X G W k bb) (ha : SO X G W a oa) (hb : SO X G W b ob) : SX X G W (pAll [oa, ob]) (.BinOp a .Mod b pos) (mApp opMod [oa, ob]) := sx_bin op_modN rn_Ic ha hb
theorem e_pow (K : Ok X G W k bb) (ha : SO X G W a oa) (hb : SO X G W b ob) : SX X G W (pAll [oa, ob]) (.BinOp a .Pow b pos) (mApp opPow [oa, ob]) := sx_bin op_pow rn_Ic ha hb
theorem e_neg (K : Ok X G W k bb) (ha : SO X G W a oa) : SX X G W (pAll [oa]) (.UnaryOp .USub a pos) (mApp opNeg [oa]) := sx_un un_neg rn_neg ha
/-! comparisons: as values, as tests -/
theorem app_tx {as : List Opd} {op : List D → Option OD} {r : List V → Hp → VK → Prop} {σ : L2.St} {H : Hp} {Q : VK} (R : RN G r op) (q : TX G W (pAll as) (mApp op as) σ H Q) : tAll G W as σ H fun vs H1 => r vs H1 Q := by
  obtain ⟨F, ρ, A, κ, ς, S, hl, q⟩ := q
  unfold mApp at q
  by_cases ho : okPl ρ as = true
  · rw [if_pos ho] at q
    refine tAll_run S hl (okPl_ok S hl ho) ?_
    cases e1 : evAll as ρ with
    | stuck => rw [e1] at q; exact q
    | exc x ρ' => rw [e1] at q; exact q
    | ok ds ρ' =>
      rw [e1] at q
      simp only [Out.bind_ok] at q
      intro F1 H1 vs A1 g1 S1 l1
      cases e2 : res ρ' ds with
      | none => rw [e2] at q; exact q.elim
      | some xs =>
        rw [e2] at q
        simp only [Option.bind_some] at q
        cases e3 : op xs with
        | none => rw [e3] at q; exact q.elim
        | some z =>
          rw [e3] at q
          exact app_done R g1 S1 hl l1 e2 e3 q
  · rw [if_neg ho] at q; exact q.elim
theorem asB_tx {p : Bool} {f : M OD} {σ : L2.St} {H : Hp} {Q : Bool → Hp → Prop} (q : TB G W p (asB f) σ H Q) : TX G W p f σ H fun v H1 => ∃ b, v = .bl b ∧ Q b H1 := TX.asB q
theorem sb_cmp {op : CmpOp} {r : R2} {f : List D → Option OD} (ho : OpR X (compareOp op) r) (R : RN G (RV2 r) f) (hm : behindInMarks op b = false) (ha : SO X G W a oa) (hb : SO X G W b ob) : SB X G W (pAll [oa, ob]) (.Compare a [op] [b] pos) (asB (mApp f [oa, ob])) :=
  PT.of (pt_cmpR ho ha hb hm) fun σ H Q q => app_tx R (asB_tx q)
theorem e_eq (K : Ok X G W k bb) (ha : SO X G W a oa) (hb : SO X G W b ob) : SX X G W (pAll [oa, ob]) (.Compare a [.Eq] [b] pos) (mApp opEq [oa, ob]) := sx_cmp (op_eqP K.u64) (rn_eq K.gK) (nomark _) ha hb
theorem e_ne (K : Ok X G W k bb) (ha : SO X G W a oa) (hb : SO X G W b ob) : SX X G W (pAll [oa, ob]) (.Compare a [.NotEq] [b] pos) (mApp opNe [oa, ob]) := sx_cmp (op_neP K.u64) (rn_ne K.gK) (nomark _) ha hb
theorem e_lt (K : Ok X G W k bb) (ha : SO X G W a oa) (hb : SO X G W b ob) : SX X G W (pAll [oa, ob]) (.Compare a [.Lt] [b] pos) (mApp opLt [oa, ob]) := sx_cmp (op_lt.or op_lt_str) (RN.or2 rn_IB rn_SB) (nomark _) ha hb
theorem e_le (K : Ok X G W k bb) (ha : SO X G W a oa) (hb : SO X G W b ob) : SX X G W (pAll [oa, ob]) (.Compare a [.LtE] [b] pos) (mApp opLe [oa, ob]) := sx_cmp (op_le.or op_le_str) (RN.or2 rn_IB rn_SB) (nomark _) ha hb
theorem e_gt (K : Ok X G W k bb) (ha : SO X G W a oa) (hb : SO X G W b ob) : SX X G W (pAll [oa, ob]) (.Compare a [.Gt] [b] pos) (mApp opGt [oa, ob]) := sx_cmp op_gt rn_IB (nomark _) ha hb
theorem e_ge (K : Ok X G W k bb) (ha : SO X G W a oa) (hb : SO X G W b ob) : SX X G W (pAll [oa, ob]) (.Compare a [.GtE] [b] pos) (mApp opGe [oa, ob]) := sx_cmp op_ge rn_IB (nomark _) ha hb
theorem e_isN (K : Ok X G W k bb) (ha : SO X G W a oa) (hb : SO X G W b ob) : SX X G W (pAll [oa, ob]) (.Compare a [.Is] [b] pos) (mApp opIsN [oa, ob]) := sx_cmp op_isN rn_isN (nomark _) ha hb
theorem e_notN (K : Ok X G W k bb) (ha : SO X G W a oa) (hb : SO X G W b ob) : SX X G W (pAll [oa, ob]) (.Compare a [.IsNot] [b] pos) (mApp opNotN [oa, ob]) := sx_cmp op_notN rn_notN (nomark _) ha hb
theorem e_in (K : Ok X G W k bb) (ha : SO X G W a oa) (hb : SO X G W b ob) (hm : behindInMarks .In b = false := by with_unfolding_all rfl) : SX X G W (pAll [oa, ob]) (.Compare a [.In] [b] pos) (mApp (opIn false) [oa, ob]) := sx_cmp (op_inA K.u64) (rn_in K.gK) hm ha hb
theorem e_nin (K : Ok X G W k bb) (ha : SO X G W a oa) (hb : SO X G W b ob) (hm : behindInMarks .NotIn b = false := by with_unfolding_all rfl) : SX X G W (pAll [oa, ob]) (.Compare a [.NotIn] [b] pos) (mApp (opIn true) [oa, ob]) := sx_cmp (op_notInA K.u64) (rn_in K.gK) hm ha hb
theorem t_eq (K : Ok X G W k bb) (ha : SO X G W a oa) (hb : SO X G W b ob) : SB X G W (pAll [oa, ob]) (.Compare a [.Eq] [b] pos) (asB (mApp opEq [oa, ob])) := sb_cmp (op_eqP K.u64) (rn_eq K.gK) (nomark _) ha hb
theorem t_ne (K : Ok X G W k bb) (ha : SO X G W a oa) (hb : SO X G W b ob) : SB X G W (pAll [oa, ob]) (.Compare a [.NotEq] [b] pos) (asB (mApp opNe [oa, ob])) := sb_cmp (op_neP K.u64) (rn_ne K.gK) (nomark _) ha hb
theorem t_lt (K : Ok X G W k bb) (ha : SO X G W a oa) (hb : SO X G W b ob) : SB X G W (pAll [oa, ob]) (.Compare a [.Lt] [b] pos) (asB (mApp opLt [oa, ob])) := sb_cmp (op_lt.or op_lt_str) (RN.or2 rn_IB rn_SB) (nomark _) ha hb
theorem t_le (K : Ok X G W k bb) (ha : SO X G W a oa) (hb : SO X G W b ob) : SB X G W (pAll [oa, ob]) (.Compare a [.LtE] [b] pos) (asB (mApp opLe [oa, ob])) := sb_cmp (op_le.or op_le_str) (RN.or2 rn_IB rn_SB) (nomark _) ha hb
theorem t_gt (K : Ok X G W k bb) (ha : SO X G W a oa) (hb : SO X G W b ob) : SB X G W (pAll [oa, ob]) (.Compare a [.Gt] [b] pos) (asB (mApp opGt [oa, ob])) := sb_cmp op_gt rn_IB (nomark _) ha hb
theorem t_ge (K : Ok X G W k bb) (ha : SO X G W a oa) (hb : SO X G W b ob) : SB X G W (pAll [oa, ob]) (.Compare a [.GtE] [b] pos) (asB (mApp opGe [oa, ob])) := sb_cmp op_ge rn_IB (nomark _) ha hb
theorem t_isN (K : Ok X G W k bb) (ha : SO X G W a oa) (hb : SO X G W b ob) : SB X G W (pAll [oa, ob]) (.Compare a [.Is] [b] pos) (asB (mApp opIsN [oa, ob])) := sb_cmp op_isN rn_isN (nomark _) ha hb
theorem t_notN (K : Ok X G W k bb) (ha : SO X G W a oa) (hb : SO X G W b ob) : SB X G W (pAll [oa, ob]) (.Compare a [.IsNot] [b] pos) (asB (mApp opNotN [oa, ob])) := sb_cmp op_notN rn_notN (nomark _) ha hb
theorem t_in (K : Ok X G W k bb) (ha : SO X G W a oa) (hb : SO X G W b ob) (hm : behindInMarks .In b = false := by with_unfolding_all rfl) : SB X G W (pAll [oa, ob]) (.Compare a [.In] [b] pos) (asB (mApp (opIn false) [oa, ob])) := sb_cmp (op_inA K.u64) (rn_in K.gK) hm ha hb
theorem t_nin (K : Ok X G W k bb) (ha : SO X G W a oa) (hb : SO X G W b ob) (hm : behindInMarks .NotIn b = false := by with_unfolding_all rfl) : SB X G W (pAll [oa, ob]) (.Compare a [.NotIn] [b] pos) (asB (mApp (opIn true) [oa, ob])) := sb_cmp (op_notInA K.u64) (rn_in K.gK) hm ha hb
/-! truth -/
def dTru : List D → Option D
  | [.non] => some (.bl false)
  | [.bl b] => some (.bl b)
  | [.int i] => some (.bl (i != 0))
  | [.str s] => if s.length ≤ sizeLine then some (.bl (!s.cps.isEmpty)) else none
  | [.tup xs] => some (.bl (!xs.isEmpty))
  | [.lst xs] => some (.bl (!xs.isEmpty))
  | [.rol xs] => some (.bl (!xs.isEmpty))
  | _ => none
def opTru (xs : List D) : Option OD := (dTru xs).map .v
/-! chains: the relations of ints -/
abbrev gLt (i j : Int) : Bool := decide (i < j)
abbrev gLe (i j : Int) : Bool := decide (i ≤ j)
/-! built-in names -/
def opAbs (xs : List D) : Option OD := (dAbs xs).map .v
def opInt (xs : List D) : Option OD := (dInt xs).map .v
def opLen (xs : List D) : Option OD := (dLen xs).map .v
def opOrd (xs : List D) : Option OD := (dOrd xs).map .v
def opStr (xs : List D) : Option OD := (dStr xs).map .v
def opList (xs : List D) : Option OD := (dList xs).map fun ds => .l (ds.map .v)
def opTuple (xs : List D) : Option OD := (dTuple xs).map .v
def opJoin (xs : List D) : Option OD := (dJoin xs).map .v
def opGet2 (xs : List D) : Option OD := (dGet2 xs).map .v
theorem e_bi {as : List Opd} {id : String} {r : List V → Hp → VK → Prop} {f : List D → Option OD} (hc : CallR X (.builtin id) r) (R : RN G r f) (K : Ok X G W k bb) (hm : G.mg x = none) (ha : PA X (e :: es) (tAll G W as)) (hv : bootBuiltins x = some (.builtin id) := by rfl) (hg : Gl X x := by rfl) (hn : x ≠ "__name__" := by decide) (hdb : (x == ("__debug__" : Str)) = false := by decide)
    (he : starEach (e :: es) X.env = (false, eval e X.env) :: starEach es X.env := by rfl) (hpl : (backTo pos (starEach es X.env)).any (·.1) = false := by rfl) : SX X G W (pAll as) (.Call (.Name x p) (e :: es) [] pos) (mApp f as) := sx_callB hc R hg (K.m hm) hv ha hn hdb he hpl
theorem e_ti {as : List Opd} {T : String} {r : List V → Hp → VK → Prop} {f : List D → Option OD} (hc : CallR X (.type T) r) (R : RN G r f) (K : Ok X G W k bb) (hm : G.mg x = none) (ha : PA X (e :: es) (tAll G W as)) (hv : bootBuiltins x = some (.type T) := by rfl) (hg : Gl X x := by rfl) (hn : x ≠ "__name__" := by decide) (hdb : (x == ("__debug__" : Str)) = false := by decide)
    (he : starEach (e :: es) X.env = (false, eval e X.env) :: starEach es X.env := by rfl) (hpl : (backTo pos (starEach es X.env)).any (·.1) = false := by rfl) : SX X G W (pAll as) (.Call (.Name x p) (e :: es) [] pos) (mApp f as) := sx_callT hc R hg (K.m hm) hv ha hn hdb he hpl
theorem e_ix (K : Ok X G W k bb) (ha : SO X G W a oa) (hb : SO X G W b ob) (hs : PlainIx b := by intro _ _; rfl) : SX X G W (pAll [oa, ob]) (.Subscript a b pos) (mApp opIx [oa, ob]) := sx_ix (ix_any K.u1) (rn_ix K.gK) hs ha hb
theorem e_bm {as : List Opd} {T : String} {op : List D → Option OD} {name : Str} {id : String} {rr : V → List V → Hp → VK → Prop} {apos : Pos} (pa : PlainAttrs T) (slot : Slot T name id) (hty : typeOf (.builtin id) = pure (.type "method_descriptor")) (hm : MtR X id rr) (R : RN G (fun vs H Q => match vs with | x :: xs => rr x xs H Q | [] => False) op) (K : Ok X G W k bb) (ho : SO X G W a oa) (ha : PA X (e :: es) (tAll G W as))
    (hbase : attributeBase a name X.env (eval a X.env) = eval a X.env := by rfl)
    (hfew : ((backTo pos (starEach (e :: es) X.env)).all (fun x => !x.1) && (backToKw pos (keywordEach [] X.env)).all (fun x => x.1.isSome)
      && decide ((e :: es).length + ([] : List Keyword).length + (if ([] : List Keyword).isEmpty then 0 else 1) < 30)) = true := by rfl)
    (hline : (apos.endLine == pos.line) = true := by rfl) (hs : starEach (e :: es) X.env = (false, eval e X.env) :: starEach es X.env := by rfl) (hplain : (backTo pos (starEach es X.env)).any (·.1) = false := by rfl) :
    SX X G W (pAll (oa :: as)) (.Call (.Attribute a name apos) (e :: es) [] pos) (mBm T op oa as) := sx_bm K.gK pa slot hty hm R ho ha hbase hfew hline hs hplain
/-! calls of defs -/
theorem e_cal {as : List Opd} {j : Nat} {ps : List Str} {f : FnM} (K : Ok X G W k true) (c : Cal X.prog X.w G X.base j x ps f) (ha : PA X (e :: es) (tAll G W as)) (hj : j ≤ k := by decide) (hg : Gl X x := by rfl) (hdb : (x == ("__debug__" : Str)) = false := by decide)
    (he : starEach (e :: es) X.env = (false, eval e X.env) :: starEach es X.env := by rfl) (hpl : (backTo pos (starEach es X.env)).any (·.1) = false := by rfl) :
    SX X G W (pAll as && noPlc as) (.Call (.Name x p) (e :: es) [] pos) (mCall f as) := sx_cal c K.gK K.gm K.r K.t ha hj hg hdb he hpl
/-! displays -/
theorem d_nil : PPs X pos [] [] ((([] : List (Opd × Opd))).map fun p => (tOpd G W p.1, tOpd G W p.2)) := pps_nil
theorem d_cons {ks : List (Option Expr)} {vs : List Expr} {as : List (Opd × Opd)} (ha : SO X G W a oa) (hb : SO X G W b ob) (h : PPs X pos ks vs (as.map fun p => (tOpd G W p.1, tOpd G W p.2))) :
    PPs X pos (some a :: ks) (b :: vs) (((oa, ob) :: as).map fun p => (tOpd G W p.1, tOpd G W p.2)) := pps_cons ha hb h
/-! statements -/
variable {pn : List Nat} {f : M OD} {i : Nat} {pb pb' : Bool} {g : SM} {body : List Stmt} {tg it : Expr}
theorem s_set (i : Nat) {pos' : Pos} (K : Ok X G W k bb) (he : SX X G W pb e f) (hi : X.N[i]? = some x := by rfl) (hp : i ∉ pn := by decide) (hx : Loc X.env.scope x := by first | exact Or.inl rfl | exact Or.inr rfl) (hs : swapsWith e (some (.Name x pos')) pos.line X.env = pure false := by rfl)
    (hf : X.fn x = true ∨ X.env.scope.names.lookup x = some .local := by first | exact Or.inr rfl | exact Or.inl rfl) : SS X G W pn (.Assign [.Name x pos'] e pos) (zSet i f) := z_set K.n he hi hp hx hs hf
theorem s_put (i : Nat) {fi : M OD} {tpos : Pos} (K : Ok X G W k bb) (he : SX X G W pb e f) (hb : SX X G W pb' b fi) (hN : X.N[i]? = some x := by rfl) (hv : Vis X.env.scope x := by first | exact Or.inl rfl | exact Or.inr (Or.inl rfl) | exact Or.inr (Or.inr rfl))
    (ha : ∀ v, assign (.Subscript (.Name x p) b tpos) X.env v = (do
      let ov ← holding [v] (eval (.Name x p) X.env)
      let iv ← holding [v, ov] (eval b X.env)
      standAt tpos
      holding [v, ov, iv] (setItem ov iv v)
      release [v, ov, iv] []) := by intro _; rfl)
    (hs : swapsWithSole [.Subscript (.Name x p) b tpos] e pos.line X.env = pure false := by rfl) (hw : swappedStores [.Subscript (.Name x p) b tpos] e X.env = pure none := by rfl)
    (h1 : (assignEach [.Subscript (.Name x p) b tpos] X.env).map (·.2) = [assign (.Subscript (.Name x p) b tpos) X.env] := by rfl) (hd : (x == ("__debug__" : Str)) = false := by decide)
    (hcd : (x == ("__classdict__" : Str)) = false := by decide) : SS X G W pn (.Assign [.Subscript (.Name x p) b tpos] e pos) (zSetIx i f fi) :=
  z_setIx (ps_asg he (pg_sub (pe_var hN hv hd hcd) hb (set_any K.u1) ha) hs hw h1)
theorem s_app (i : Nat) {apos cpos : Pos} (K : Ok X G W k bb) (he : SX X G W pb e f) (hN : X.N[i]? = some x := by rfl) (hv : Vis X.env.scope x := by first | exact Or.inl rfl | exact Or.inr (Or.inl rfl) | exact Or.inr (Or.inr rfl))
    (hbase : attributeBase (.Name x p) "append" X.env (eval (.Name x p) X.env) = eval (.Name x p) X.env := by rfl)
    (hfew : ((backTo cpos (starEach [e] X.env)).all (fun x => !x.1) && (backToKw cpos (keywordEach [] X.env)).all (fun x => x.1.isSome)
      && decide ([e].length + ([] : List Keyword).length + (if ([] : List Keyword).isEmpty then 0 else 1) < 30)) = true := by rfl)
    (hline : (apos.endLine == cpos.line) = true := by rfl) (hs : starEach [e] X.env = [(false, eval e X.env)] := by rfl) (hplain : (backTo cpos (starEach [] X.env)).any (·.1) = false := by rfl) (hw : swapsWith (.Call (.Attribute (.Name x p) "append" apos) [e] [] cpos) none pos.line X.env = pure false := by rfl)
    (hd : (x == ("__debug__" : Str)) = false := by decide) (hcd : (x == ("__classdict__" : Str)) = false := by decide) :
    SS X G W pn (.Expr (.Call (.Attribute (.Name x p) "append" apos) [e] [] cpos) pos) (zApp i f) :=
  z_app K.gK (ps_expr (pe_bm PySem.F.plainAttrs_list PySem.F.slot_list_append PySem.F.type_list_append mt_append (pe_var hN hv hd hcd) (pa_cons he pa_nil hs) hbase hfew hline hs hplain) hw)
theorem g_n (i : Nat) (K : Ok X G W k bb) (hi : X.N[i]? = some x := by rfl) (hx : Loc X.env.scope x := by first | exact Or.inl rfl | exact Or.inr rfl) (hf : X.fn x = true ∨ X.env.scope.names.lookup x = some .local := by first | exact Or.inr rfl | exact Or.inl rfl) : PG X (.Name x pos) (Tgt.t G.K (.name i)) := pg_name K.n hi hx hf
theorem g_nil : PGs X [] (gNames []) := pgs_nil
theorem g_cons (i : Nat) {is : List Nat} (K : Ok X G W k bb) (h : PGs X es (gNames is)) (hi : X.N[i]? = some x := by rfl) (hx : Loc X.env.scope x := by first | exact Or.inl rfl | exact Or.inr rfl) (hf : X.fn x = true ∨ X.env.scope.names.lookup x = some .local := by first | exact Or.inr rfl | exact Or.inl rfl) :
    PGs X (.Name x p :: es) (gNames (i :: is)) := pgs_cons (pg_name K.n hi hx hf) h
theorem g_t {is : List Nat} {j : Nat} (K : Ok X G W k true) (h : PGs X es (gNames is)) (hn : (assignEach es X.env).length = is.length := by rfl) (hst : (assignEach es X.env).findIdx? (·.1) = none := by rfl) : PG X (.Tuple es j pos) (Tgt.t G.K (.tup is)) := by
  rw [K.gK]
  exact pg_tup K.c h hn hst
theorem s_for {tgm : Tgt} (K : Ok X G W k true) (po : PassesOwn (model X.prog X.w) X.A X.env X.xe) (hi : SX X G W pb it f) (hg : PG X tg (tgm.t G.K)) (hb : SSs X G W pn body g) (hp : ∀ i ∈ tgm.ix, i ∉ pn := by decide) (hs : ∀ x, foldedSetIterable it X.env x = pure x := by intro _; rfl) :
    SS X G W pn (.For tg it body [] pos) (zForIn (zIt f) tgm g) := z_for K.gK po K.c hi hg hb hp hs
theorem s_for1 {tgm : Tgt} (K : Ok X G W k true) (po : PassesOwn (model X.prog X.w) X.A X.env X.xe) (hm : G.mg "range" = none) (ha : SX X G W pb e f) (hg : PG X tg (tgm.t G.K)) (hb : SSs X G W pn body g) (hgl : Gl X "range" := by rfl) (hp : ∀ i ∈ tgm.ix, i ∉ pn := by decide)
    (hs : ∀ x, foldedSetIterable (.Call (.Name "range" p) [e] [] q) X.env x = pure x := by intro _; rfl) (hst : starEach [e] X.env = [(false, eval e X.env)] := by rfl) : SS X G W pn (.For tg (.Call (.Name "range" p) [e] [] q) body [] pos) (zForIn (zRng1 f) tgm g) :=
  z_forR1 po K.c hgl (K.m hm) (pa_cons ha pa_nil hst) hg hb hp hs hst
theorem s_for2 {tgm : Tgt} {f2 : M OD} (K : Ok X G W k true) (po : PassesOwn (model X.prog X.w) X.A X.env X.xe) (hm : G.mg "range" = none) (ha : SX X G W pb e f) (hb2 : SX X G W pb' b f2) (hg : PG X tg (tgm.t G.K)) (hb : SSs X G W pn body g) (hgl : Gl X "range" := by rfl) (hp : ∀ i ∈ tgm.ix, i ∉ pn := by decide)
    (hs : ∀ x, foldedSetIterable (.Call (.Name "range" p) [e, b] [] q) X.env x = pure x := by intro _; rfl) (hst : starEach [e, b] X.env = [(false, eval e X.env), (false, eval b X.env)] := by rfl) (hst2 : starEach [b] X.env = [(false, eval b X.env)] := by rfl) : SS X G W pn (.For tg (.Call (.Name "range" p) [e, b] [] q) body [] pos) (zForIn (zRng2 f f2) tgm g) :=
  z_forR2 po K.c hgl (K.m hm) (pa_cons ha (pa_cons hb2 pa_nil hst2) (hst.trans (congrArg _ hst2.symm))) hg hb hp hs hst hst2
end
end Vs
namespace Vs
open PySem L2
/-- a comprehension's block, by computation -/
def blkB (N : List Str) (sc scope : Scope) (own : List (Str × Nat)) : Bool :=
  (scope.kind == .function) && ((scope.names.all fun y => decide (scope.names.lookup y.1 = some y.2)) && ((own.all fun p => decide (N[p.2]? = some p.1)) && ((scope.names.all fun y => decide (y.2 = .free → sc.names.lookup y.1 = some .cell ∨ sc.names.lookup y.1 = some .free)) &&
    scope.names.all fun y => decide (y.2 = .local ∨ y.2 = .cell → y.1 ∈ own.map (·.1) ∨ y.1 ∉ N))))
theorem blk_of {N : List Str} {sc scope : Scope} {own : List (Str × Nat)} (h : blkB N sc scope own = true) : BlkOk N sc scope own := by
  unfold blkB at h
  simp only [Bool.and_eq_true, List.all_eq_true, decide_eq_true_eq] at h
  obtain ⟨h1, h2, h3, h4, h5⟩ := h
  exact ⟨by cases hk : scope.kind <;> rw [hk] at h1 <;> first | rfl | exact absurd h1 (by decide), h2, h3, h4, h5⟩
end Vs

/-! VsL: mirrors are evaluated. -/
namespace Vs
open PySem L2
theorem nr {α : Sort _} {a b : α} (h : a = b) : a = b := h
def ofO (o : Option OD) : M OD := fun ρ => match o with
  | some z => .ok z ρ
  | none => .stuck
@[simp] theorem ofO_some {z : OD} {ρ : Env} : ofO (some z) ρ = .ok z ρ := nr rfl
def ofS (o : Option Env) : Out Fl := match o with
  | some ρ => .ok .nx ρ
  | none => .stuck
@[simp] theorem ofS_some {ρ : Env} : ofS (some ρ) = .ok .nx ρ := nr rfl
structure Tag {α : Type} (a : α) : Type where
/-- bind, its rest not looked into -/
def bindL {α β : Type} (k : α → M β) (t : Tag k) (o : Out α) : Out β := o.bind k
theorem bind_e {α β : Type} {o : Out α} {k : α → M β} : o.bind k = bindL k ⟨⟩ o := nr rfl
theorem bindL_ok {α β : Type} {k : α → M β} {t : Tag k} {a : α} {ρ : Env} : bindL k t (.ok a ρ) = k a ρ := nr rfl
theorem bindL_exc {α β : Type} {k : α → M β} {t : Tag k} {x : XV} {ρ : Env} : bindL k t (.exc x ρ) = .exc x ρ := nr rfl
theorem bindL_stuck {α β : Type} {k : α → M β} {t : Tag k} : bindL k t .stuck = .stuck := nr rfl
theorem mApp_e {op : List D → Option OD} {as : List Opd} {ρ : Env} : mApp op as ρ = if okPl ρ as = true then (evAll as ρ).bind fun ds ρ' => ofO ((res ρ' ds).bind op) ρ' else .stuck := by
  unfold mApp
  split
  · first | rfl | (congr 1; funext ds ρ'; unfold ofO; cases (res ρ' ds).bind op <;> rfl)
  · rfl
theorem mBm_e {T : String} {op : List D → Option OD} {r : Opd} {as : List Opd} {ρ : Env} : mBm T op r as ρ = if T ≠ "" ∧ okPl ρ (r :: as) = true then (r.ev ρ).bind fun d ρ1 => if isKd T ρ1 d = true then (evAll as ρ1).bind fun ds ρ2 => ofO ((res ρ2 (d :: ds)).bind op) ρ2 else .stuck else .stuck := by
  unfold mBm
  split
  · first | rfl | (congr 1; funext d ρ1; split <;> first | rfl | (congr 1; funext ds ρ2; unfold ofO; cases (res ρ2 (d :: ds)).bind op <;> rfl))
  · rfl
theorem mTake_e {as : List Opd} {k : List OD → Option OD} {ρ : Env} : mTake as k ρ = if okPl ρ as = true then (evAll as ρ).bind fun ds ρ' => match takeAll ds ρ' with
    | some r => ofO (k r.1) r.2
    | none => .stuck else .stuck := by
  unfold mTake
  split
  · congr 1; funext ds ρ'
    cases takeAll ds ρ' with
    | none => rfl
    | some r =>
      simp only [ofO]
      try (cases k r.1 <;> rfl)
  · rfl
theorem mC_e {d : D} {ρ : Env} : mC d ρ = .ok (.v d) ρ := nr rfl
def gotV (x : Option (Option OD)) : M OD := fun ρ => match x with
  | some (some (.v d)) => .ok (.v d) ρ
  | _ => .stuck
@[simp] theorem gotV_some {d : D} {ρ : Env} : gotV (some (some (.v d))) ρ = .ok (.v d) ρ := nr rfl
theorem mVar_e {i : Nat} {ρ : Env} : mVar i ρ = gotV (ρ[i]?) ρ := by unfold mVar gotV; rfl
theorem mMv_e {i : Nat} {ρ : Env} : mMv i ρ = match ρ[i]? with
  | some (some od) => .ok od (ρ.set i none)
  | _ => .stuck := rfl
theorem mFz_e {f : M OD} {ρ : Env} : mFz f ρ = (f ρ).bind fun od ρ' => .ok (.v od.fz) ρ' := nr rfl
def isB (od : OD) : M Bool := fun ρ => match od with
  | .v (.bl b) => .ok b ρ
  | _ => .stuck
@[simp] theorem isB_bl {b : Bool} {ρ : Env} : isB (.v (.bl b)) ρ = .ok b ρ := nr rfl
theorem asB_e {f : M OD} {ρ : Env} : asB f ρ = (f ρ).bind isB := nr rfl
theorem mB_e {f : M Bool} {ρ : Env} : mB f ρ = (f ρ).bind fun b ρ' => .ok (.v (.bl b)) ρ' := nr rfl
theorem bAnd_e {f g : M Bool} {ρ : Env} : bAnd f g ρ = (f ρ).bind fun b ρ' => if b = true then g ρ' else .ok false ρ' := nr rfl
theorem bOr_e {f g : M Bool} {ρ : Env} : bOr f g ρ = (f ρ).bind fun b ρ' => if b = true then .ok true ρ' else g ρ' := nr rfl
theorem bNot_e {f : M Bool} {ρ : Env} : bNot f ρ = (f ρ).bind fun b ρ' => .ok (!b) ρ' := nr rfl
theorem mIf_e {α : Type} {c : M Bool} {f g : M α} {ρ : Env} : mIf c f g ρ = (c ρ).bind fun b ρ' => if b = true then f ρ' else g ρ' := nr rfl
theorem zNext_e {ρ : Env} : zNext ρ = .ok .nx ρ := nr rfl
theorem zBreak_e {ρ : Env} : zBreak ρ = .ok .bk ρ := nr rfl
theorem zCont_e {ρ : Env} : zCont ρ = .ok .ct ρ := nr rfl
def thenS (g : SM) (fl : Fl) : SM := fun ρ => match fl with
  | .nx => g ρ
  | .rt od => .ok (.rt od) ρ
  | .bk => .ok .bk ρ
  | .ct => .ok .ct ρ
@[simp] theorem thenS_nx {g : SM} {ρ : Env} : thenS g .nx ρ = g ρ := nr rfl
@[simp] theorem thenS_rt {g : SM} {od : OD} {ρ : Env} : thenS g (.rt od) ρ = .ok (.rt od) ρ := nr rfl
@[simp] theorem thenS_bk {g : SM} {ρ : Env} : thenS g .bk ρ = .ok .bk ρ := nr rfl
@[simp] theorem thenS_ct {g : SM} {ρ : Env} : thenS g .ct ρ = .ok .ct ρ := nr rfl
theorem zSeq_e {f g : SM} {ρ : Env} : zSeq f g ρ = (f ρ).bind (thenS g) := by
  unfold zSeq; congr 1; funext fl ρ'; cases fl <;> rfl
theorem zSet_e {i : Nat} {f : M OD} {ρ : Env} : zSet i f ρ = (f ρ).bind fun od ρ' => if i < ρ'.length then .ok .nx (ρ'.set i (some od)) else .stuck := nr rfl
theorem zRet_e {f : M OD} {ρ : Env} : zRet f ρ = (f ρ).bind fun od ρ' => .ok (.rt od) ρ' := nr rfl
theorem zRetN_e {ρ : Env} : zRetN ρ = .ok (.rt (.v .non)) ρ := nr rfl
theorem zDrop_e {f : M OD} {ρ : Env} : zDrop f ρ = (f ρ).bind fun _ ρ' => .ok .nx ρ' := nr rfl
theorem zIf_e {c : M Bool} {f g : SM} {ρ : Env} : zIf c f g ρ = (c ρ).bind fun b ρ' => if b = true then f ρ' else g ρ' := nr rfl
def putS (i : Nat) (ρ : Env) (v ix : OD) : Option Env := match ix, ρ[i]?.join with
  | .v x, some od => (putIx od x v).map fun od' => ρ.set i (some od')
  | _, _ => none
theorem zSetIx_e {i : Nat} {fv fi : M OD} {ρ : Env} : zSetIx i fv fi ρ = (fv ρ).bind fun v ρ1 => if slotIs ρ1 i = true then (fi ρ1).bind fun ix ρ2 => ofS (putS i ρ2 v ix) else .stuck := by
  unfold zSetIx
  congr 1; funext v ρ1
  split
  · congr 1; funext ix ρ2
    unfold putS
    cases ix with
    | v x =>
      cases ρ2[i]?.join with
      | none => rfl
      | some od => simp only [ofS]; cases putIx od x v <;> rfl
    | _ => rfl
  · rfl
theorem zForIn_e {it : M (List D)} {tg : Tgt} {f : SM} {ρ : Env} : zForIn it tg f ρ = (it ρ).bind fun ds ρ' => zFor tg f ds ρ' := nr rfl
theorem zFor_nil {tg : Tgt} {f : SM} {ρ : Env} : zFor tg f [] ρ = .ok .nx ρ := nr rfl
def forS (o : Option Env) (f : SM) (k : Fl → SM) : Out Fl := match o with
  | some ρ1 => (f ρ1).bind k
  | none => .stuck
@[simp] theorem forS_some {ρ : Env} {f : SM} {k : Fl → SM} : forS (some ρ) f k = (f ρ).bind k := nr rfl
theorem zFor_cons {tg : Tgt} {f : SM} {d : D} {ds : List D} {ρ : Env} : zFor tg f (d :: ds) ρ = forS (tg.put d ρ) f (zLoop (zFor tg f ds)) := by
  show (match tg.put d ρ with | some ρ1 => (f ρ1).bind (zLoop (zFor tg f ds)) | none => .stuck) = _
  unfold forS
  rfl
@[simp] theorem zLoop_nx {r : SM} : zLoop r .nx = r := nr rfl
@[simp] theorem zLoop_ct {r : SM} : zLoop r .ct = r := nr rfl
@[simp] theorem zLoop_bk {r : SM} : zLoop r .bk = fun ρ => .ok .nx ρ := nr rfl
@[simp] theorem zLoop_rt {r : SM} {od : OD} : zLoop r (.rt od) = fun ρ => .ok (.rt od) ρ := nr rfl
def ofI (o : Option (List D)) : M (List D) := fun ρ => match o with
  | some ds => .ok ds ρ
  | none => .stuck
@[simp] theorem ofI_some {ds : List D} {ρ : Env} : ofI (some ds) ρ = .ok ds ρ := nr rfl
theorem zIt_e {f : M OD} {ρ : Env} : zIt f ρ = (f ρ).bind fun od ρ' => ofI (items od.fz) ρ' := by
  unfold zIt; congr 1
def rng1 (od : OD) : Option (List D) := match od with
  | .v (.int n) => if -(2 ^ 62) ≤ n ∧ n < 2 ^ 62 then some (rngD 0 n.toNat) else none
  | _ => none
theorem zRng1_e {f : M OD} {ρ : Env} : zRng1 f ρ = (f ρ).bind fun od ρ' => ofI (rng1 od) ρ' := by
  unfold zRng1; congr 1; funext od ρ'
  cases od with
  | v d =>
    cases d with
    | int n =>
      show (if -(2 ^ 62) ≤ n ∧ n < 2 ^ 62 then Out.ok (rngD 0 n.toNat) ρ' else Out.stuck) = ofI (if -(2 ^ 62) ≤ n ∧ n < 2 ^ 62 then some (rngD 0 n.toNat) else none) ρ'
      split <;> rfl
    | _ => rfl
  | _ => rfl
theorem rng1_int {n : Int} (h : -(2 ^ 62) ≤ n ∧ n < 2 ^ 62) : rng1 (.v (.int n)) = some (rngD 0 n.toNat) := if_pos h
def callO (o : Option (List OD × Env)) (f : FnM) (ds : List DV) : Out OD := match o with
  | some r => match f r.1 with
    | .ok od bk => .ok od (putBack ds bk r.2)
    | .exc x bk => .exc x (putBack ds bk r.2)
    | .stuck => .stuck
  | none => .stuck
def retO (o : Out OD) (ds : List DV) (ρ : Env) : Out OD := match o with
  | .ok od bk => .ok od (putBack ds bk ρ)
  | .exc x bk => .exc x (putBack ds bk ρ)
  | .stuck => .stuck
@[simp] theorem retO_ok {od : OD} {bk : Env} {ds : List DV} {ρ : Env} : retO (.ok od bk) ds ρ = .ok od (putBack ds bk ρ) := nr rfl
@[simp] theorem retO_exc {x : XV} {bk : Env} {ds : List DV} {ρ : Env} : retO (.exc x bk) ds ρ = .exc x (putBack ds bk ρ) := nr rfl
theorem callO_some {ods : List OD} {ρ : Env} {f : FnM} {ds : List DV} : callO (some (ods, ρ)) f ds = retO (f ods) ds ρ := nr rfl
theorem mCall_e {f : FnM} {as : List Opd} {ρ : Env} : mCall f as ρ = if okPl ρ as = true then (evAll as ρ).bind fun ds ρ' => callO (takeAll ds ρ') f ds else .stuck := by
  unfold mCall
  split
  · congr 1; funext ds ρ'
    unfold doCall callO
    cases takeAll ds ρ' with
    | none => rfl
    | some r => rfl
  · rfl
def takeP (x : Option (Option OD)) (ds : List DV) (ρ : Env) (i : Nat) : Option (List OD × Env) := match x with
  | some (some od) => (takeAll ds (ρ.set i none)).map fun r => (od :: r.1, r.2)
  | _ => none
@[simp] theorem takeP_some {od : OD} {ds : List DV} {ρ : Env} {i : Nat} : takeP (some (some od)) ds ρ i = (takeAll ds (ρ.set i none)).map fun r => (od :: r.1, r.2) := nr rfl
theorem takeAll_nil {ρ : Env} : takeAll [] ρ = some ([], ρ) := nr rfl
theorem takeAll_own {od : OD} {ds : List DV} {ρ : Env} : takeAll (.own od :: ds) ρ = (takeAll ds ρ).map fun r => (.v od.fz :: r.1, r.2) := nr rfl
theorem takeAll_plc {i : Nat} {ds : List DV} {ρ : Env} : takeAll (.plc i :: ds) ρ = takeP (ρ[i]?) ds ρ i := nr rfl
def putP (x : Option (Option OD)) (y : Option OD) (ρ : Env) (i : Nat) : Env := match x with
  | some none => ρ.set i y
  | _ => ρ
@[simp] theorem putP_none {y : Option OD} {ρ : Env} {i : Nat} : putP (some none) y ρ i = ρ.set i y := nr rfl
theorem putBack_plc {i : Nat} {ds : List DV} {x : Option OD} {bk ρ : Env} : putBack (.plc i :: ds) (x :: bk) ρ = putBack ds bk (putP (ρ[i]?) x ρ i) := nr rfl
theorem putBack_own {od : OD} {ds : List DV} {x : Option OD} {bk ρ : Env} : putBack (.own od :: ds) (x :: bk) ρ = putBack ds bk ρ := nr rfl
theorem putBack_nil {bk ρ : Env} : putBack [] bk ρ = ρ := by cases bk <;> rfl
def retD (mask : List Bool) (o : Out Fl) : Out OD := match o with
  | .ok (.rt od) ρ' => .ok od (back mask ρ')
  | .ok .nx ρ' => .ok (.v .non) (back mask ρ')
  | .ok _ _ => .stuck
  | .exc x ρ' => .exc x (back mask ρ')
  | .stuck => .stuck
@[simp] theorem retD_rt {mask : List Bool} {od : OD} {ρ : Env} : retD mask (.ok (.rt od) ρ) = .ok od (back mask ρ) := nr rfl
@[simp] theorem retD_nx {mask : List Bool} {ρ : Env} : retD mask (.ok .nx ρ) = .ok (.v .non) (back mask ρ) := nr rfl
@[simp] theorem retD_exc {mask : List Bool} {x : XV} {ρ : Env} : retD mask (.exc x ρ) = .exc x (back mask ρ) := nr rfl
theorem defM_e {n : Nat} {mask : List Bool} {m : SM} {ods : List OD} : defM n mask m ods = if ods.length = mask.length then retD mask (m (ods.map some ++ List.replicate (n - ods.length) none)) else .stuck := by
  unfold defM
  split
  · cases m (ods.map some ++ List.replicate (n - ods.length) none) with
    | ok fl ρ => cases fl <;> rfl
    | _ => rfl
  · rfl
namespace N
theorem Out_bind_ok {α β : Type} {a : α} {ρ : Env} {k : α → M β} : (Out.ok a ρ).bind k = k a ρ := nr rfl
theorem Out_bind_exc {α β : Type} {a : XV} {ρ : Env} {k : α → M β} : (Out.exc a ρ).bind k = .exc a ρ := nr rfl
theorem Out_bind_stuck {α β : Type} {k : α → M β} : (Out.stuck).bind k = .stuck := nr rfl
theorem Option_map_some {α β : Type} {a : α} {f : α → β} : Option.map f (some a) = some (f a) := nr rfl
theorem Option_map_none {α β : Type} {f : α → β} : Option.map f none = none := nr rfl
theorem Option_bind_some {α β : Type} {a : α} {f : α → Option β} : Option.bind (some a) f = f a := nr rfl
theorem Option_bind_none {α β : Type} {f : α → Option β} : Option.bind none f = none := nr rfl
theorem Option_join_some {α : Type} {a : Option α} : Option.join (some a) = a := nr rfl
theorem Option_isSome_some {α : Type} {a : α} : (some a).isSome = true := nr rfl
theorem List_length_cons {α : Type} {a : α} {as : List α} : (a :: as).length = as.length + 1 := nr rfl
theorem List_length_nil {α : Type} : ([] : List α).length = 0 := nr rfl
theorem List_map_cons {α β : Type} {f : α → β} {a : α} {as : List α} : (a :: as).map f = f a :: as.map f := nr rfl
theorem List_map_nil {α β : Type} {f : α → β} : ([] : List α).map f = [] := nr rfl
theorem List_cons_append {α : Type} {a : α} {as bs : List α} : (a :: as) ++ bs = a :: (as ++ bs) := nr rfl
theorem List_nil_append {α : Type} {as : List α} : [] ++ as = as := nr rfl
theorem List_getElemQ_cons_zero {α : Type} {a : α} {as : List α} : (a :: as)[0]? = some a := nr rfl
theorem List_getElemQ_cons_succ {α : Type} {a : α} {as : List α} {i : Nat} : (a :: as)[i + 1]? = as[i]? := nr rfl
theorem List_set_cons_zero {α : Type} {a b : α} {as : List α} : (a :: as).set 0 b = b :: as := nr rfl
theorem List_set_cons_succ {α : Type} {a b : α} {as : List α} {i : Nat} : (a :: as).set (i + 1) b = a :: as.set i b := nr rfl
end N
/-! operations on given kinds -/
theorem opIx_lst {ds : List D} {i : Int} : opIx [.lst ds, .int i] = (atI ds i).map .v := nr rfl
theorem opIx_rol {ds : List D} {i : Int} : opIx [.rol ds, .int i] = (atI ds i).map .v := nr rfl
theorem opIx_tup {ds : List D} {i : Int} : opIx [.tup ds, .int i] = (atI ds i).map .v := nr rfl
theorem opIx_str {s : Str} {i : Int} (h : s.length ≤ sizeLine) : opIx [.str s, .int i] = (atI s.cps.toList i).map fun c => OD.v (.str ⟨#[c]⟩) := by
  show ((if s.length ≤ sizeLine then (atI s.cps.toList i).map fun c => D.str ⟨#[c]⟩ else none).map OD.v) = _
  rw [if_pos h, Option.map_map]; rfl
theorem atI_nat {α : Type} {xs : List α} {i : Int} (h0 : 0 ≤ i) : atI xs i = xs[i.toNat]? := by
  unfold atI ixN
  rw [if_pos h0]
  by_cases h1 : i < xs.length
  · rw [if_pos h1]; rfl
  · rw [if_neg h1]
    exact (List.getElem?_eq_none (by omega)).symm
theorem atI_ofNat {α : Type} {xs : List α} {i : Nat} : atI xs (i : Int) = xs[i]? := by rw [atI_nat (by omega)]; simp
theorem ixN_nat {n k : Nat} : ixN n (k : Int) = if k < n then some k else none := by
  unfold ixN
  rw [if_pos (by omega)]
  by_cases h : k < n
  · rw [if_pos (by omega), if_pos h]; simp
  · rw [if_neg (by omega), if_neg h]
theorem ixN_lit {n k : Nat} : ixN n (OfNat.ofNat k : Int) = if k < n then some k else none := ixN_nat
theorem atI_lit {α : Type} {xs : List α} {k : Nat} : atI xs (OfNat.ofNat k : Int) = xs[k]? := atI_ofNat
theorem atI_0 {α : Type} {xs : List α} : atI xs 0 = xs[0]? := atI_ofNat (i := 0)
theorem ixN_0 {n : Nat} : ixN n 0 = if 0 < n then some 0 else none := ixN_nat (k := 0)
theorem atI_1 {α : Type} {xs : List α} : atI xs 1 = xs[1]? := atI_ofNat (i := 1)
theorem ixN_1 {n : Nat} : ixN n 1 = if 1 < n then some 1 else none := ixN_nat (k := 1)
theorem atI_2 {α : Type} {xs : List α} : atI xs 2 = xs[2]? := atI_ofNat (i := 2)
theorem ixN_2 {n : Nat} : ixN n 2 = if 2 < n then some 2 else none := ixN_nat (k := 2)
theorem atI_3 {α : Type} {xs : List α} : atI xs 3 = xs[3]? := atI_ofNat (i := 3)
theorem ixN_3 {n : Nat} : ixN n 3 = if 3 < n then some 3 else none := ixN_nat (k := 3)
theorem atI_4 {α : Type} {xs : List α} : atI xs 4 = xs[4]? := atI_ofNat (i := 4)
theorem ixN_4 {n : Nat} : ixN n 4 = if 4 < n then some 4 else none := ixN_nat (k := 4)
theorem atI_5 {α : Type} {xs : List α} : atI xs 5 = xs[5]? := atI_ofNat (i := 5)
theorem ixN_5 {n : Nat} : ixN n 5 = if 5 < n then some 5 else none := ixN_nat (k := 5)
theorem atI_6 {α : Type} {xs : List α} : atI xs 6 = xs[6]? := atI_ofNat (i := 6)
theorem ixN_6 {n : Nat} : ixN n 6 = if 6 < n then some 6 else none := ixN_nat (k := 6)
theorem atI_7 {α : Type} {xs : List α} : atI xs 7 = xs[7]? := atI_ofNat (i := 7)
theorem ixN_7 {n : Nat} : ixN n 7 = if 7 < n then some 7 else none := ixN_nat (k := 7)
theorem atI_8 {α : Type} {xs : List α} : atI xs 8 = xs[8]? := atI_ofNat (i := 8)
theorem ixN_8 {n : Nat} : ixN n 8 = if 8 < n then some 8 else none := ixN_nat (k := 8)
theorem atI_9 {α : Type} {xs : List α} : atI xs 9 = xs[9]? := atI_ofNat (i := 9)
theorem ixN_9 {n : Nat} : ixN n 9 = if 9 < n then some 9 else none := ixN_nat (k := 9)
theorem atI_10 {α : Type} {xs : List α} : atI xs 10 = xs[10]? := atI_ofNat (i := 10)
theorem ixN_10 {n : Nat} : ixN n 10 = if 10 < n then some 10 else none := ixN_nat (k := 10)
theorem atI_11 {α : Type} {xs : List α} : atI xs 11 = xs[11]? := atI_ofNat (i := 11)
theorem ixN_11 {n : Nat} : ixN n 11 = if 11 < n then some 11 else none := ixN_nat (k := 11)
theorem atI_12 {α : Type} {xs : List α} : atI xs 12 = xs[12]? := atI_ofNat (i := 12)
theorem ixN_12 {n : Nat} : ixN n 12 = if 12 < n then some 12 else none := ixN_nat (k := 12)
theorem atI_13 {α : Type} {xs : List α} : atI xs 13 = xs[13]? := atI_ofNat (i := 13)
theorem ixN_13 {n : Nat} : ixN n 13 = if 13 < n then some 13 else none := ixN_nat (k := 13)
theorem atI_14 {α : Type} {xs : List α} : atI xs 14 = xs[14]? := atI_ofNat (i := 14)
theorem ixN_14 {n : Nat} : ixN n 14 = if 14 < n then some 14 else none := ixN_nat (k := 14)
theorem atI_15 {α : Type} {xs : List α} : atI xs 15 = xs[15]? := atI_ofNat (i := 15)
theorem ixN_15 {n : Nat} : ixN n 15 = if 15 < n then some 15 else none := ixN_nat (k := 15)
theorem opEq_int {i j : Int} : opEq [.int i, .int j] = some (.v (.bl (decide (i = j)))) := by
  rfl
theorem opNe_int {i j : Int} : opNe [.int i, .int j] = some (.v (.bl (!decide (i = j)))) := by
  rfl
theorem opEq_str {i j : Str} : opEq [.str i, .str j] = some (.v (.bl (decide (i = j)))) := by
  simp only [opEq, dEq, toPy, Option.bind_some, PyData.plain, PyData.depth, PyData.eqv]
  by_cases h : i = j <;> simp [h]
theorem opNe_str {i j : Str} : opNe [.str i, .str j] = some (.v (.bl (!decide (i = j)))) := by
  simp only [opNe, dEq, toPy, Option.bind_some, PyData.plain, PyData.depth, PyData.eqv]
  by_cases h : i = j <;> simp [h]
theorem opAdd_int {i j : Int} : opAdd [.int i, .int j] = some (.v (.int (i + j))) := nr rfl
theorem opSub_int {i j : Int} : opSub [.int i, .int j] = some (.v (.int (i - j))) := nr rfl
theorem opMul_int {i j : Int} (h : CMul i j) : opMul [.int i, .int j] = some (.v (.int (i * j))) := by
  show ((if CMul i j then some (D.int (i * j)) else none).map OD.v) = _
  rw [if_pos h]; rfl
theorem opFdv_int {i j : Int} (h : CDivN i j) : opFdv [.int i, .int j] = some (.v (.int (i.fdiv j))) := by
  show ((if CDivN i j then some (D.int (i.fdiv j)) else none).map OD.v) = _
  rw [if_pos h]; rfl
theorem opMod_int {i j : Int} (h : j ≠ 0) : opMod [.int i, .int j] = some (.v (.int (i.fmod j))) := by
  show ((if j ≠ 0 then some (D.int (i.fmod j)) else none).map OD.v) = _
  rw [if_pos h]; rfl
theorem opPow_int {i j : Int} (h : CPow i j) : opPow [.int i, .int j] = some (.v (.int (i ^ j.toNat))) := by
  show ((if CPow i j then some (D.int (i ^ j.toNat)) else none).map OD.v) = _
  rw [if_pos h]; rfl
theorem opPow_10_18 : opPow [.int 10, .int 18] = some (.v (.int 1000000000000000000)) := Eq.trans (show opPow [.int 10, .int 18] = some (.v (.int 1000000000000000000)) from rfl) (Eq.refl _)
theorem opMul_r {i j : Int} (h1 : -18446744073709551616 < j) (h2 : j < 18446744073709551616) : opMul [.int i, .int j] = some (.v (.int (i * j))) := opMul_int (.inr ⟨h1, h2⟩)
theorem opMul_l {i j : Int} (h1 : -18446744073709551616 < i) (h2 : i < 18446744073709551616) : opMul [.int i, .int j] = some (.v (.int (i * j))) := opMul_int (.inl ⟨h1, h2⟩)
theorem opFdv_p {i j : Int} (h1 : 0 < j) (h2 : j < 1073741824) : opFdv [.int i, .int j] = some (.v (.int (i.fdiv j))) := opFdv_int ⟨by omega, by omega⟩
theorem opMod_p {i j : Int} (h1 : 0 < j) : opMod [.int i, .int j] = some (.v (.int (i.fmod j))) := opMod_int (by omega)
theorem opLt_int {i j : Int} : opLt [.int i, .int j] = some (.v (.bl (decide (i < j)))) := nr rfl
theorem opLe_int {i j : Int} : opLe [.int i, .int j] = some (.v (.bl (decide (i ≤ j)))) := nr rfl
theorem opGt_int {i j : Int} : opGt [.int i, .int j] = some (.v (.bl (decide (j < i)))) := nr rfl
theorem opGe_int {i j : Int} : opGe [.int i, .int j] = some (.v (.bl (decide (j ≤ i)))) := nr rfl
theorem dAbs_int {i : Int} : dAbs [.int i] = some (.int (if i < 0 then -i else i)) := nr rfl
theorem dInt_int {i : Int} : dInt [.int i] = some (.int i) := nr rfl
theorem dInt_bl {b : Bool} : dInt [.bl b] = some (.int (if b then 1 else 0)) := nr rfl
theorem dLen_lst {ds : List D} : dLen [.lst ds] = some (.int ds.length) := nr rfl
theorem dLen_rol {ds : List D} : dLen [.rol ds] = some (.int ds.length) := nr rfl
theorem dLen_tup {ds : List D} : dLen [.tup ds] = some (.int ds.length) := nr rfl
theorem opAbs_int {i : Int} : opAbs [.int i] = some (.v (.int (if i < 0 then -i else i))) := nr rfl
theorem opInt_int {i : Int} : opInt [.int i] = some (.v (.int i)) := nr rfl
theorem opInt_bl {b : Bool} : opInt [.bl b] = some (.v (.int (if b then 1 else 0))) := nr rfl
theorem opLen_lst {ds : List D} : opLen [.lst ds] = some (.v (.int ds.length)) := nr rfl
theorem opLen_rol {ds : List D} : opLen [.rol ds] = some (.v (.int ds.length)) := nr rfl
theorem opLen_tup {ds : List D} : opLen [.tup ds] = some (.v (.int ds.length)) := nr rfl
theorem opList_lst {ds : List D} : opList [.lst ds] = some (.l (ds.map .v)) := nr rfl
theorem opList_rol {ds : List D} : opList [.rol ds] = some (.l (ds.map .v)) := nr rfl
theorem opList_tup {ds : List D} : opList [.tup ds] = some (.l (ds.map .v)) := nr rfl
theorem fz_v {d : D} : (OD.v d).fz = d := by simp only [OD.fz]
theorem fz_l {ds : List OD} : (OD.l ds).fz = .lst (OD.fzs ds) := by simp only [OD.fz]
theorem fzs_nil : OD.fzs [] = [] := by simp only [OD.fzs]
theorem fzs_cons {d : OD} {ds : List OD} : OD.fzs (d :: ds) = d.fz :: OD.fzs ds := by simp only [OD.fzs]
theorem fzs_mv {ds : List D} : OD.fzs (ds.map .v) = ds := by
  rw [OD.fzs_map, List.map_map]
  exact (List.map_congr_left fun d _ => fz_v).trans (List.map_id _)
theorem shs_nil : OD.shs [] = some [] := nr rfl
theorem shs_cons {d : D} {xs : List OD} : OD.shs (.v d :: xs) = (OD.shs xs).map fun ds => d :: ds := nr rfl
theorem sh_v {d : D} : (OD.v d).sh = some d := nr rfl
theorem sh_l {xs : List OD} : (OD.l xs).sh = (OD.shs xs).map .lst := nr rfl
theorem ev_val {p : Bool} {f : M OD} {ρ : Env} : (Opd.val p f).ev ρ = (f ρ).bind fun od ρ' => .ok (.own od) ρ' := nr rfl
theorem ev_plc {i : Nat} {ρ : Env} : (Opd.plc i).ev ρ = .ok (.plc i) ρ := nr rfl
theorem evAll_nil {ρ : Env} : evAll [] ρ = .ok [] ρ := nr rfl
theorem evAll_cons {a : Opd} {as : List Opd} {ρ : Env} : evAll (a :: as) ρ = (a.ev ρ).bind fun d ρ1 => (evAll as ρ1).bind fun ds ρ2 => .ok (d :: ds) ρ2 := nr rfl
theorem okPl_nil {ρ : Env} : okPl ρ [] = true := nr rfl
theorem okPl_val {p : Bool} {f : M OD} {as : List Opd} {ρ : Env} : okPl ρ (.val p f :: as) = okPl ρ as := nr rfl
theorem okPl_plc {i : Nat} {as : List Opd} {ρ : Env} : okPl ρ (.plc i :: as) = ((ρ[i]?.join).isSome && okPl ρ as) := nr rfl
theorem res_nil {ρ : Env} : res ρ [] = some [] := nr rfl
theorem res_own {od : OD} {ds : List DV} {ρ : Env} : res ρ (.own od :: ds) = (res ρ ds).map fun xs => od.fz :: xs := nr rfl
theorem res_plc {i : Nat} {ds : List DV} {ρ : Env} : res ρ (.plc i :: ds) = ((ρ[i]?.join).bind OD.sh).bind fun x => (res ρ ds).map fun xs => x :: xs := nr rfl
theorem putS_e {i : Nat} {ρ : Env} {v : OD} {x : D} : putS i ρ v (.v x) = (ρ[i]?.join).bind fun od => (putIx od x v).map fun od' => ρ.set i (some od') := by
  unfold putS
  cases ρ[i]?.join <;> rfl
theorem putIx_l {xs : List OD} {k : Int} {v : OD} : putIx (.l xs) (.int k) v = (ixN xs.length k).map fun j => .l (xs.set j v) := nr rfl
theorem back_nil {ρ : Env} : back [] ρ = [] := nr rfl
theorem back_t {bs : List Bool} {x : Option OD} {ρ : Env} : back (true :: bs) (x :: ρ) = x :: back bs ρ := nr rfl
theorem back_f {bs : List Bool} {x : Option OD} {ρ : Env} : back (false :: bs) (x :: ρ) = none :: back bs ρ := nr rfl
theorem tgt_name {i : Nat} {d : D} {ρ : Env} : (Tgt.name i).put d ρ = if i < ρ.length then some (ρ.set i (some (.v d))) else none := nr rfl
theorem tgt_tup {is : List Nat} {ds : List D} {ρ : Env} : (Tgt.tup is).put (.tup ds) ρ = setAll is ds ρ := nr rfl
theorem setAll_nil {ρ : Env} : setAll [] [] ρ = some ρ := nr rfl
theorem setAll_cons {i : Nat} {is : List Nat} {d : D} {ds : List D} {ρ : Env} : setAll (i :: is) (d :: ds) ρ = if i < ρ.length then setAll is ds (ρ.set i (some (.v d))) else none := nr rfl
theorem items_lst {ds : List D} : items (.lst ds) = some ds := by simp only [items]
theorem items_tup {ds : List D} : items (.tup ds) = some ds := by simp only [items]
theorem items_str {s : Str} : items (.str s) = some (strD s) := by simp only [items]
theorem small_line {n : Nat} (h : n ≤ 1000000) : n ≤ sizeLine := Nat.le_trans h (by decide)
theorem kLst_e {ods : List OD} (h : ods.length ≤ 1000000) : kLst ods = some (.l ((OD.fzs ods).map .v)) := if_pos (small_line h)
theorem kLstO_e {ods : List OD} (h : ods.length ≤ 1000000) : kLstO ods = some (.l ods) := if_pos (small_line h)
theorem kTup_e {ods : List OD} (h : ods.length ≤ 1000000) : kTup ods = some (.v (.tup (OD.fzs ods))) := if_pos (small_line h)
theorem mLst_e {as : List Opd} {ρ : Env} : mLst as ρ = mTake as kLst ρ := nr rfl
theorem mLstO_e {as : List Opd} {ρ : Env} : mLstO as ρ = mTake as kLstO ρ := nr rfl
theorem mTup_e {as : List Opd} {ρ : Env} : mTup as ρ = mTake as kTup ρ := nr rfl
theorem mDict_e {as : List Opd} {ρ : Env} : mDict as ρ = mTake as kDict ρ := nr rfl
theorem wipeE_nil {ρ : Env} : wipeE ρ [] = ρ := nr rfl
theorem wipeE_cons {ρ : Env} {v : Nat} {vs : List Nat} : wipeE ρ (v :: vs) = (wipeE ρ vs).set v none := nr rfl
theorem T_str : ("str" = "") = False := by decide
theorem T_list : ("list" = "") = False := by decide
theorem T_dict : ("dict" = "") = False := by decide
theorem T_int : ("int" = "") = False := by decide
end Vs
namespace VsEv
open Vs PySem L2
end VsEv
namespace Vs
open PySem L2
/-- a loop with an invariant of what is left and of the slots -/
theorem for_step {tg : Tgt} {f : SM} {I : List D → Env → Prop} (h : ∀ d ds ρ, I (d :: ds) ρ → ∃ ρ1 ρ2, tg.put d ρ = some ρ1 ∧ f ρ1 = .ok .nx ρ2 ∧ I ds ρ2) : ∀ ds ρ, I ds ρ → ∃ ρ', zFor tg f ds ρ = .ok .nx ρ' ∧ I [] ρ'
  | [], ρ, i => ⟨ρ, rfl, i⟩
  | d :: ds, ρ, i => by
    obtain ⟨ρ1, ρ2, e1, e2, i2⟩ := h d ds ρ i
    obtain ⟨ρ', e3, i3⟩ := for_step h ds ρ2 i2
    refine ⟨ρ', ?_, i3⟩
    rw [zFor_cons, e1, forS_some, e2, Out.bind_ok]
    exact e3
theorem comp_step {tg : Tgt} {vs : List Nat} {e : M OD} {I : Env → Prop} {P : D → Prop} (h : ∀ d ρ, I ρ → ∃ ρ1 od ρ2, tg.put d (wipeE ρ vs) = some ρ1 ∧ e ρ1 = .ok od ρ2 ∧ P od.fz ∧ I (wipeE ρ2 vs)) :
    ∀ ds acc ρ, acc.length + ds.length ≤ sizeLine → (∀ d ∈ acc, P d) → I ρ → ∃ out ρ', cLoop tg vs bYes e ds acc ρ = .ok out ρ' ∧ I ρ' ∧ (∀ d ∈ out, P d) ∧ out.length = acc.length + ds.length
  | [], acc, ρ, _, ha, i => ⟨acc, ρ, rfl, i, ha, rfl⟩
  | d :: ds, acc, ρ, hl, ha, i => by
    obtain ⟨ρ1, od, ρ2, e1, e2, p, i2⟩ := h d ρ i
    have hl' : acc.length + (ds.length + 1) ≤ sizeLine := hl
    obtain ⟨out, ρ', e3, i3, h3, l3⟩ := comp_step h ds (acc ++ [od.fz]) (wipeE ρ2 vs) (by simp; omega) (by intro x hx; rcases List.mem_append.mp hx with y | y; exact ha x y; rw [List.mem_singleton.mp y]; exact p) i2
    refine ⟨out, ρ', ?_, i3, h3, by simp at l3 ⊢; omega⟩
    show (match tg.put d (wipeE ρ vs) with
    | some ρ1 => match bYes ρ1 with
      | .ok true ρ2 => match e ρ2 with
        | .ok od ρ3 => if acc.length < sizeLine then cLoop tg vs bYes e ds (acc ++ [od.fz]) (wipeE ρ3 vs) else .stuck
        | _ => .stuck
      | .ok false ρ2 => cLoop tg vs bYes e ds acc (wipeE ρ2 vs)
      | _ => .stuck
    | none => .stuck) = _
    rw [e1]
    show (match e ρ1 with
        | .ok od ρ3 => if acc.length < sizeLine then cLoop tg vs bYes e ds (acc ++ [od.fz]) (wipeE ρ3 vs) else .stuck
        | _ => .stuck) = _
    rw [e2]
    show (if acc.length < sizeLine then cLoop tg vs bYes e ds (acc ++ [od.fz]) (wipeE ρ2 vs) else .stuck) = _
    rw [if_pos (by omega)]
    exact e3
theorem mComp_e {it : M (List D)} {tg : Tgt} {vs : List Nat} {c : M Bool} {e : M OD} {ρ : Env} : mComp it tg vs c e ρ = (it ρ).bind fun ds ρ1 => (cLoop tg vs c e ds [] (wipeE ρ1 vs)).bind fun acc ρ2 => .ok (.l (acc.map .v)) ρ2 := nr rfl
theorem opOrd_1 {c : Nat} : opOrd [.str ⟨#[c]⟩] = some (.v (.int c)) := nr rfl
theorem textsD_map : ∀ ys : List Str, textsD (ys.map .str) = some ys
  | [] => rfl
  | y :: ys => by simp [textsD, textsD_map ys]
theorem opJoin_strs {a : Str} {ys : List Str} (h : (ys.map (·.length)).sum + ys.length * a.length ≤ 16777216) : opJoin [.str a, .lst (ys.map .str)] = some (.v (.str (Txt.join a ys))) := by
  show (((textsD (ys.map .str)).bind fun ys => if (ys.map (·.length)).sum + ys.length * a.length ≤ 16777216 then some (D.str (Txt.join a ys)) else none).map OD.v) = _
  rw [textsD_map]
  show ((if (ys.map (·.length)).sum + ys.length * a.length ≤ 16777216 then some (D.str (Txt.join a ys)) else none).map OD.v) = _
  rw [if_pos h]; rfl
end Vs

/-! VsM: isinstance, all, any, slices, min, max, sorted; tests of comprehensions; x += e. -/
namespace Vs
open PySem L2 PySem.Spec PyProof.Rows
/-! ### isinstance -/
def tyD : D → Option String
  | .non => some "NoneType"
  | .bl _ => some "bool"
  | .int _ => some "int"
  | .str _ => some "str"
  | .tup _ => some "tuple"
  | .lst _ => some "list"
  | .rol _ => some "list"
  | .dk _ _ => some "dict"
  | .ins _ _ _ => none
  | .exn _ _ => none
def isiB (a b : String) : Option Bool :=
  if b = "int" then some (a == "int" || a == "bool") else if b = "str" ∨ b = "tuple" ∨ b = "list" ∨ b = "dict" ∨ b = "bool" then some (a == b) else none
def opIsi (T : String) : List D → Option OD
  | [d] => (tyD d).bind fun t => (isiB t T).map fun b => .v (.bl b)
  | _ => none
theorem isiB_ok {a b : String} {r : Bool} (ha : a = "NoneType" ∨ a = "bool" ∨ a = "int" ∨ a = "str" ∨ a = "tuple" ∨ a = "list" ∨ a = "dict") (h : isiB a b = some r) : kitB a b = some r := by
  unfold isiB at h
  by_cases h1 : b = "int"
  · subst h1
    rcases ha with rfl | rfl | rfl | rfl | rfl | rfl | rfl <;> cases h <;> decide +kernel
  · rw [if_neg h1] at h
    split at h
    · rename_i h2
      rcases h2 with rfl | rfl | rfl | rfl | rfl <;> rcases ha with rfl | rfl | rfl | rfl | rfl | rfl | rfl <;> cases h <;> decide +kernel
    · cases h
theorem tyD_all {d : D} {t : String} (h : tyD d = some t) : t = "NoneType" ∨ t = "bool" ∨ t = "int" ∨ t = "str" ∨ t = "tuple" ∨ t = "list" ∨ t = "dict" := by
  cases d <;> cases h <;> simp
theorem sql_ty {K : PySem.W.Frag} {H : Hp} {a : Addr} {xs : List V} (h : SqL K H a xs) : TyX K H (.ref a) (.type "list") := by
  rcases h with (h | ⟨o, h⟩) | ⟨o, its, n, h, hc, _⟩
  · exact .base (.lst h)
  · exact .base (.frz h)
  · exact .kList h hc
theorem sqt_ty {K : PySem.W.Frag} {H : Hp} {a : Addr} {xs : List V} (h : SqT K H a xs) : TyX K H (.ref a) (.type "tuple") := by
  rcases h with (h | ⟨o, h⟩) | ⟨o, its, n, h, hc, _⟩
  · exact .base (.tup h)
  · exact .fTuple h
  · exact .kTuple h hc
theorem RepB.ty {G : Gx} {F H : Hp} (le : Le F H) {d : D} {v : V} {t : String} (h : RepB G F H d v) (e : tyD d = some t) : TyX G.K H v (.type t) := by
  cases d with
  | non => cases e; simp only [RepB, Rep] at h; subst h; exact .base .non
  | bl b => cases e; simp only [RepB, Rep] at h; subst h; exact .base (.bl b)
  | int b => cases e; simp only [RepB, Rep] at h; subst h; exact .base (.int b)
  | str b => cases e; simp only [RepB, Rep] at h; subst h; exact .base (.str b)
  | tup ds => cases e; simp only [RepB, Rep] at h; obtain ⟨a, vs, rfl, h, _⟩ := h; exact sqt_ty (le.sqt h)
  | lst ds => cases e; simp only [RepB, Rep] at h; obtain ⟨a, vs, rfl, h, _⟩ := h; exact .base (.lst h)
  | rol ds => cases e; simp only [RepB, Rep] at h; obtain ⟨a, vs, rfl, h, _⟩ := h; exact sql_ty (le.sql h)
  | dk ks ds => cases e; simp only [RepB, Rep] at h; obtain ⟨a, vs, rfl, h, _⟩ := h; exact h.elim (fun h => .base (.dK h)) fun ⟨o, h⟩ => .fDict h
  | ins => cases e
  | exn => cases e
def rIsD (K : PySem.W.Frag) (T : String) : List V → Hp → VK → Prop := fun xs H Q => ∃ x t b, xs = [x] ∧ TyX K H x (.type t) ∧ kitB t T = some b ∧ Q (.bl b) H
theorem rn_isi {G : Gx} {X : Cx} (hG : G.K = X.K) {T : String} : RN G (rIsD X.K T) (opIsi T) := fun F H xs vs z Q le hr ez k => by
  unfold opIsi at ez
  split at ez
  · rename_i d
    obtain ⟨v, rfl, h⟩ := hr.one
    cases e1 : tyD d with
    | none => rw [e1] at ez; cases ez
    | some t =>
      rw [e1] at ez
      simp only [Option.bind_some] at ez
      cases e2 : isiB t T with
      | none => rw [e2] at ez; cases ez
      | some b =>
        rw [e2] at ez; cases ez
        have := h.ty le e1
        rw [hG] at this
        refine ⟨v, t, b, rfl, this, isiB_ok (tyD_all e1) e2, k F H _ (fun _ => False) (.refl le) ?_ fun _ z => z.elim⟩
        simp only [OT, Rep]
        exact ⟨trivial, fun _ z => z⟩
  · cases ez
section
variable {G : Gx} {W : WX} {X : Cx} {k : Nat} {bb : Bool} {e a b c : Expr} {es : List Expr} {oa ob oc : Opd} {pos p q : Pos} {x : Str}
theorem e_isi (T : String) {y : Str} (K : Ok X G W k bb) (hm : G.mg "isinstance" = none) (hmT : G.mg y = none) (ha : SO X G W a oa) (hvT : bootBuiltins y = some (.type T) := by rfl) (hg : Gl X "isinstance" := by rfl) (hgT : Gl X y := by rfl) (hnT : y ≠ "__name__" := by decide) (hdT : (y == ("__debug__" : Str)) = false := by decide)
    (hs : starEach [a, .Name y q] X.env = (false, eval a X.env) :: starEach [.Name y q] X.env := by rfl) (hs2 : starEach [.Name y q] X.env = [(false, eval (.Name y q) X.env)] := by rfl) (hpl : (backTo pos (starEach [.Name y q] X.env)).any (·.1) = false := by rfl) :
    SX X G W (pAll [oa]) (.Call (.Name "isinstance" p) [a, .Name y q] [] pos) (mApp (opIsi T) [oa]) :=
  sx_app (r := rIsD X.K T) (pe_callB call_isi hg (K.m hm) rfl (pa_cons ha (pa_cons (pe_bltn (v := .ty T) hgT (K.m hmT) hvT rfl hnT hdT) pa_nil hs2) hs) (by decide) (by decide) hs hpl) (rn_isi K.gK) fun σ H Q z => by
    refine tOpd_mono (show tOpd G W oa σ H fun x H1 => rIsD X.K T [x] H1 Q from z) ?_
    rintro v H1 ⟨x, t, b, e, ty, hk, hq⟩
    cases e
    exact ⟨v, .ty T, .type t, .type T, b, rfl, .ty T, ty, kit_ty hk, hq⟩
/-! ### all, any -/
def boolsD : List D → Option (List Bool)
  | [] => some []
  | .bl b :: r => (boolsD r).map fun bs => b :: bs
  | _ :: _ => none
def lstD : D → Option (List D)
  | .lst ds => some ds
  | .rol ds => some ds
  | _ => none
def opAll : List D → Option OD
  | [d] => (lstD d).bind fun ds => (boolsD ds).map fun bs => .v (.bl (bs.all id))
  | _ => none
def opAny : List D → Option OD
  | [d] => (lstD d).bind fun ds => (boolsD ds).map fun bs => .v (.bl (bs.any id))
  | _ => none
theorem Reps.bools {F : Hp} : ∀ {ds : List D} {vs : List V} {bs : List Bool}, Reps G F ds vs → boolsD ds = some bs → vs = bs.map V.bl
  | [], vs, bs, h, e => by simp only [Reps] at h; cases e; exact h
  | d :: ds, vs, bs, h, e => by
    simp only [Reps] at h
    obtain ⟨v, r, rfl, h1, h2⟩ := h
    cases d with
    | bl b =>
      simp only [boolsD] at e
      cases q : boolsD ds with
      | none => rw [q] at e; cases e
      | some cs =>
        rw [q] at e; cases e
        simp only [Rep] at h1
        rw [h1, Reps.bools h2 q]; rfl
    | _ => simp [boolsD] at e
theorem RepB.lstD {F H : Hp} (le : Le F H) {d : D} {v : V} {ds : List D} (h : RepB G F H d v) (e : Vs.lstD d = some ds) : ∃ a vs, v = .ref a ∧ SqL G.K H a vs ∧ Reps G F ds vs := by
  cases d with
  | lst xs => cases e; simp only [RepB] at h; obtain ⟨a, vs, rfl, h1, h2⟩ := h; exact ⟨a, vs, rfl, .inl (.of h1), h2⟩
  | rol xs => cases e; simp only [RepB, Rep] at h; obtain ⟨a, vs, rfl, h1, h2⟩ := h; exact ⟨a, vs, rfl, le.sql h1, h2⟩
  | _ => cases e
theorem rn_all (hG : G.K = X.K) : RN G (rAll X.K) opAll := fun F H xs vs z Q le hr ez k => by
  unfold opAll at ez
  split at ez
  · rename_i d
    obtain ⟨v, rfl, h⟩ := hr.one
    cases e1 : Vs.lstD d with
    | none => rw [e1] at ez; cases ez
    | some ds =>
      rw [e1] at ez
      simp only [Option.bind_some] at ez
      cases e2 : boolsD ds with
      | none => rw [e2] at ez; cases ez
      | some bs =>
        rw [e2] at ez; cases ez
        obtain ⟨a, us, rfl, h1, h2⟩ := h.lstD le e1
        rw [h2.bools e2, hG] at h1
        refine ⟨a, bs, rfl, h1, k F H _ (fun _ => False) (.refl le) ?_ fun _ z => z.elim⟩
        simp only [OT, Rep]
        exact ⟨trivial, fun _ z => z⟩
  · cases ez
theorem rn_any (hG : G.K = X.K) : RN G (rAny X.K) opAny := fun F H xs vs z Q le hr ez k => by
  unfold opAny at ez
  split at ez
  · rename_i d
    obtain ⟨v, rfl, h⟩ := hr.one
    cases e1 : Vs.lstD d with
    | none => rw [e1] at ez; cases ez
    | some ds =>
      rw [e1] at ez
      simp only [Option.bind_some] at ez
      cases e2 : boolsD ds with
      | none => rw [e2] at ez; cases ez
      | some bs =>
        rw [e2] at ez; cases ez
        obtain ⟨a, us, rfl, h1, h2⟩ := h.lstD le e1
        rw [h2.bools e2, hG] at h1
        refine ⟨a, bs, rfl, h1, k F H _ (fun _ => False) (.refl le) ?_ fun _ z => z.elim⟩
        simp only [OT, Rep]
        exact ⟨trivial, fun _ z => z⟩
  · cases ez
/-! ### min, max of two ints -/
def opMin (xs : List D) : Option OD := (dI (fun i j => if j < i then j else i) xs).map .v
def opMax (xs : List D) : Option OD := (dI (fun i j => if j > i then j else i) xs).map .v
theorem rn_min : RN G (fun xs H Q => ∃ i j : Int, xs = [V.int i, V.int j] ∧ Q (.int (if j < i then j else i)) H) opMin := rn_s fun F H xs vs z Q le hr ez k => by
  unfold dI at ez
  split at ez
  · rename_i i j
    cases ez
    obtain ⟨v, w, rfl, h1, h2⟩ := hr.two
    have e1 := repB_int h1
    have e2 := repB_int h2
    subst e1 e2
    exact ⟨i, j, rfl, k _ (by simp only [Rep])⟩
  · cases ez
theorem rn_max : RN G (fun xs H Q => ∃ i j : Int, xs = [V.int i, V.int j] ∧ Q (.int (if j > i then j else i)) H) opMax := rn_s fun F H xs vs z Q le hr ez k => by
  unfold dI at ez
  split at ez
  · rename_i i j
    cases ez
    obtain ⟨v, w, rfl, h1, h2⟩ := hr.two
    have e1 := repB_int h1
    have e2 := repB_int h2
    subst e1 e2
    exact ⟨i, j, rfl, k _ (by simp only [Rep])⟩
  · cases ez
/-! ### tests of a comprehension -/
theorem pts_one' {pc : Bool} {fc : M Bool} (h : SB X G W0 pc c fc) : PTs X [c] (TB G W0 pc fc) := pts_one h
end
end Vs

/-! VsN: slices. -/
namespace Vs
open PySem L2 PySem.Spec PyProof.Rows
def cutD {α : Type} (xs : List α) (lo hi : Option Int) : List α := (xs.drop (HT.sIx xs.length 0 lo)).take (HT.sIx xs.length xs.length hi - HT.sIx xs.length 0 lo)
theorem cutD_rep {G : Gx} {F : Hp} {ds : List D} {vs : List V} (h : Reps G F ds vs) (lo hi : Option Int) : Reps G F (cutD ds lo hi) (cutV vs lo hi) := by
  unfold cutD cutV
  rw [h.len]
  exact (h.drop _).take _
/-- the parts, by what is written -/
def parts : Bool → Bool → List D → Option (D × Option Int × Option Int)
  | false, false, [d] => some (d, none, none)
  | true, false, [d, .int i] => some (d, some i, none)
  | false, true, [d, .int j] => some (d, none, some j)
  | true, true, [d, .int i, .int j] => some (d, some i, some j)
  | _, _, _ => none
def cutO (r : D × Option Int × Option Int) : Option OD := match r.1 with
  | .lst ds => some (.l ((cutD ds r.2.1 r.2.2).map .v))
  | .rol ds => some (.l ((cutD ds r.2.1 r.2.2).map .v))
  | .tup ds => some (.v (.tup (cutD ds r.2.1 r.2.2)))
  | .str s => if s.length ≤ sizeLine then some (.v (.str (Txt.slice s r.2.1 r.2.2))) else none
  | _ => none
def opSl (a b : Bool) (xs : List D) : Option OD := (parts a b xs).bind cutO
def rSlAll (K : PySem.W.Frag) : V → Option Int → Option Int → Hp → VK → Prop := fun x lo hi H Q => rSlL K x lo hi H Q ∨ (rSlA K x lo hi H Q ∨ C8.rSlX x lo hi H Q)
theorem sl_all {X : Cx} : SlR X (rSlAll X.K) := SlR.or sl_list (SlR.or sl_tupA C8.sl_txt)
section
variable {G : Gx} {X : Cx}
theorem cut_run {F H : Hp} {d : D} {v : V} {lo hi : Option Int} {z : OD} {Q : VK} (hG : G.K = X.K) (le : Le F H) (h : RepB G F H d v) (e : cutO (d, lo, hi) = some z)
    (k : ∀ F' H' u B, New F H F' H' → OT G F' H' z u B → (∀ a, B a → H a = none ∧ F' a = none) → Q u H') : rSlAll X.K v lo hi H Q := by
  have lst : ∀ {ds : List D} {a : Addr} {vs : List V}, SqL X.K H a vs → Reps G F ds vs → z = .l ((cutD ds lo hi).map .v) → rSlAll X.K (.ref a) lo hi H Q := by
    intro ds a vs h1 h2 ez
    subst ez
    refine .inl ⟨a, vs, rfl, h1, fun p hp => ?_⟩
    have hF : F p = none := by
      cases q : F p with
      | none => rfl
      | some u => rw [le p u q] at hp; cases hp
    refine k F (upd H p (.lst (cutV vs lo hi))) (.ref p) (fun b => b = p) (.own le hp) (ot_lv (cutD_rep h2 lo hi) upd_same) fun b hb => ?_
    subst hb
    exact ⟨hp, hF⟩
  cases d with
  | lst ds =>
    simp only [RepB] at h
    obtain ⟨a, vs, rfl, h1, h2⟩ := h
    exact lst (.inl (.of h1)) h2 (Option.some.inj e).symm
  | rol ds =>
    simp only [RepB, Rep] at h
    obtain ⟨a, vs, rfl, h1, h2⟩ := h
    rw [hG] at h1
    exact lst (le.sql h1) h2 (Option.some.inj e).symm
  | tup ds =>
    simp only [RepB, Rep] at h
    obtain ⟨a, vs, rfl, h1, h2⟩ := h
    have ez := (Option.some.inj e).symm
    subst ez
    have hl := h2.len
    rw [hG] at h1
    refine .inr (.inl ⟨a, vs, rfl, le.sqt h1, fun hw => ?_, fun hw p hp => ?_⟩)
    · have : cutD ds lo hi = ds := by
        unfold cutD
        rw [← hl, hw.1, hw.2]
        simp [hl]
      refine k F H (.ref a) (fun _ => False) (.refl le) ?_ fun _ z => z.elim
      simp only [OT, Rep]
      rw [this]
      exact ⟨⟨a, vs, rfl, by rw [hG]; exact h1, h2⟩, fun _ z => z⟩
    · refine k (upd F p (.tup (cutV vs lo hi))) (upd H p (.tup (cutV vs lo hi))) (.ref p) (fun _ => False) (.frz le hp) ?_ fun _ z => z.elim
      simp only [OT, Rep]
      exact ⟨⟨p, _, rfl, .of upd_same, (cutD_rep h2 lo hi).mono (New.frz le hp).lf⟩, fun _ z => z⟩
  | str s =>
    simp only [cutO] at e
    split at e
    · rename_i hs
      have ez := (Option.some.inj e).symm
      subst ez
      have := repB_str h
      subst this
      refine .inr (.inr ⟨s, rfl, hs, k F H _ (fun _ => False) (.refl le) ?_ fun _ z => z.elim⟩)
      simp only [OT, Rep]
      exact ⟨trivial, fun _ z => z⟩
    · cases e
  | _ => cases e
def asI (f : M OD) : M OD := fun ρ => (f ρ).bind fun od ρ' => match od with
  | .v (.int i) => .ok (.v (.int i)) ρ'
  | _ => .stuck
theorem TX.asI {W : WX} {p : Bool} {f : M OD} {σ : L2.St} {H : Hp} {Q : VK} (q : TX G W p (asI f) σ H Q) : TX G W p f σ H fun v H1 => ∃ i, v = .int i ∧ Q v H1 := by
  obtain ⟨F, ρ, A, κ, ς, S, hl, q⟩ := q
  refine ⟨F, ρ, A, κ, ς, S, hl, ?_⟩
  unfold Vs.asI at q
  cases e1 : f ρ with
  | stuck => rw [e1] at q; exact q
  | exc x ρ' => rw [e1] at q; exact q
  | ok od ρ' =>
    rw [e1] at q
    simp only [Out.bind_ok] at q
    intro F' H' v A' g S'
    split at q
    · rename_i i
      obtain ⟨hr, _⟩ := S'.pop_v
      simp only [Rep] at hr
      exact ⟨i, hr, q F' H' v A' g S'⟩
    · exact q.elim
def rSlR (K : PySem.W.Frag) : Bool → Bool → List V → Hp → VK → Prop
  | false, false, [x], H, Q => rSlAll K x none none H Q
  | true, false, [x, i], H, Q => ∃ n, i = .int n ∧ rSlAll K x (some n) none H Q
  | false, true, [x, j], H, Q => ∃ n, j = .int n ∧ rSlAll K x none (some n) H Q
  | true, true, [x, i, j], H, Q => ∃ n m, i = .int n ∧ j = .int m ∧ rSlAll K x (some n) (some m) H Q
  | _, _, _, _, _ => False
theorem rn_sl (hG : G.K = X.K) (a b : Bool) : RN G (rSlR X.K a b) (opSl a b) := fun F H xs vs z Q le hr ez k => by
  unfold opSl at ez
  cases e : parts a b xs with
  | none => rw [e] at ez; cases ez
  | some r =>
    rw [e] at ez
    simp only [Option.bind_some] at ez
    unfold parts at e
    split at e
    · obtain ⟨v, rfl, h1⟩ := hr.one
      cases e
      exact cut_run hG le h1 ez k
    · obtain ⟨v, w, rfl, h1, h2⟩ := hr.two
      cases e
      exact ⟨_, repB_int h2, cut_run hG le h1 ez k⟩
    · obtain ⟨v, w, rfl, h1, h2⟩ := hr.two
      cases e
      exact ⟨_, repB_int h2, cut_run hG le h1 ez k⟩
    · obtain ⟨v, w, u, rfl, h1, h2, h3⟩ := hr.three
      cases e
      exact ⟨_, _, repB_int h2, repB_int h3, cut_run hG le h1 ez k⟩
    · cases e
variable {W : WX} {k : Nat} {e a b : Expr} {oe oa ob : Opd} {pos p2 : Pos}
theorem e_sl00 (K : Ok X G W k bb) (he : SO X G W e oe) : SX X G W (pAll [oe]) (.Subscript e (.Slice none none none p2) pos) (mApp (opSl false false) [oe]) :=
  sx_app (pe_slice sl_all he po_none po_none) (rn_sl K.gK false false) fun σ H Q z => z
theorem e_sl10 (K : Ok X G W k bb) (he : SO X G W e oe) (ha : SO X G W a oa) : SX X G W (pAll [oe, oa]) (.Subscript e (.Slice (some a) none none p2) pos) (mApp (opSl true false) [oe, oa]) :=
  sx_app (pe_slice sl_all he (po_some ha) po_none) (rn_sl K.gK true false) fun σ H Q z => z
theorem e_sl01 (K : Ok X G W k bb) (he : SO X G W e oe) (hb : SO X G W b ob) : SX X G W (pAll [oe, ob]) (.Subscript e (.Slice none (some b) none p2) pos) (mApp (opSl false true) [oe, ob]) :=
  sx_app (pe_slice sl_all he po_none (po_some hb)) (rn_sl K.gK false true) fun σ H Q z => z
theorem e_sl11 {p p' : Bool} {f g : M OD} (K : Ok X G W k bb) (he : SO X G W e oe) (ha : SX X G W p a f) (hb : SX X G W p' b g) : SX X G W (pAll [oe, .val p (asI f), .val p' (asI g)]) (.Subscript e (.Slice (some a) (some b) none p2) pos) (mApp (opSl true true) [oe, .val p (asI f), .val p' (asI g)]) :=
  sx_app (pe_slice sl_all he (po_some ha) (po_some hb)) (rn_sl K.gK true true) fun σ H Q z => by
    refine tOpd_mono (show tOpd G W oe σ H fun x H1 => TX G W p (asI f) σ H1 fun y H2 => TX G W p' (asI g) σ H2 fun w H3 => rSlR X.K true true [x, y, w] H3 Q from z) fun v H1 h => (TX.asI h).mono ?_
    rintro y H2 ⟨i, rfl, h⟩
    refine ⟨i, rfl, (TX.asI h).mono ?_⟩
    rintro w H3 ⟨j, rfl, n, m, e1, e2, h⟩
    cases e1; cases e2
    exact ⟨j, rfl, h⟩
end
end Vs

/-! VsO: parts of owned things: x[-1], self.f, self.f[-1] .. -/
namespace Vs
open PySem L2 PySem.Spec PyProof.Rows
inductive PStep where
  | ix (k : Int)
  | fld (c f : Str)
  | ky (s : Str)
/-- the place of a text among the keys -/
def kIx (ks : List Key) (s : Str) : Option Nat := ks.findIdx? fun k => decide (k = .inr s)
def fIx (fs : List Str) (f : Str) : Option Nat := fs.findIdx? fun g => decide (g = f)
def OD.at : List PStep → OD → Option OD
  | [], od => some od
  | .ix n :: π, .l xs => (ixN xs.length n).bind fun j => (xs[j]?).bind (OD.at π)
  | .fld c f :: π, .o c' fs xs => if c = c' then (fIx fs f).bind fun j => (xs[j]?).bind (OD.at π) else none
  | .ky s :: π, .k ks xs => (kIx ks s).bind fun j => (xs[j]?).bind (OD.at π)
  | _, _ => none
def OD.putAt : List PStep → OD → OD → Option OD
  | [], _, x => some x
  | .ix n :: π, .l xs, x => (ixN xs.length n).bind fun j => (xs[j]?).bind fun y => (OD.putAt π y x).map fun y' => .l (xs.set j y')
  | .fld c f :: π, .o c' fs xs, x => if c = c' then (fIx fs f).bind fun j => (xs[j]?).bind fun y => (OD.putAt π y x).map fun y' => .o c' fs (xs.set j y') else none
  | .ky s :: π, .k ks xs, x => (kIx ks s).bind fun j => (xs[j]?).bind fun y => (OD.putAt π y x).map fun y' => .k ks (xs.set j y')
  | _, _, _ => none
/-- the way to a part, in the heap -/
def Lead (G : Gx) (H : Hp) : List PStep → V → V → Prop
  | [], v, w => v = w
  | .ix k :: π, v, w => ∃ a vs u, v = .ref a ∧ H a = some (.lst vs) ∧ atI vs k = some u ∧ Lead G H π u w
  | .fld c f :: π, v, w => ∃ a C dx fvs u, v = .ref a ∧ G.mg c = some (.ref C) ∧ H a = some (.ins C dx fvs) ∧ fvs.lookup f = some u ∧ Lead G H π u w
  | .ky s :: π, v, w => ∃ a kvs u, v = .ref a ∧ H a = some (.dK kvs) ∧ valV kvs (Sum.inr s) = some u ∧ Lead G H π u w
theorem Lead.det {G : Gx} {H : Hp} : ∀ {π : List PStep} {v w w' : V}, Lead G H π v w → Lead G H π v w' → w = w'
  | [], v, w, w', h, h' => h.symm.trans h'
  | .ix k :: π, v, w, w', h, h' => by
    obtain ⟨a, vs, u, rfl, e1, e2, h⟩ := h
    obtain ⟨a', vs', u', e0, e1', e2', h'⟩ := h'
    cases e0
    rw [e1] at e1'; cases e1'
    rw [e2] at e2'; cases e2'
    exact Lead.det h h'
  | .fld c f :: π, v, w, w', h, h' => by
    obtain ⟨a, C, dx, fvs, u, rfl, m, e1, e2, h⟩ := h
    obtain ⟨a', C', dx', fvs', u', e0, m', e1', e2', h'⟩ := h'
    cases e0
    rw [e1] at e1'; cases e1'
    rw [e2] at e2'; cases e2'
    exact Lead.det h h'
  | .ky s :: π, v, w, w', h, h' => by
    obtain ⟨a, kvs, u, rfl, e1, e2, h⟩ := h
    obtain ⟨a', kvs', u', e0, e1', e2', h'⟩ := h'
    cases e0
    rw [e1] at e1'; cases e1'
    rw [e2] at e2'; cases e2'
    exact Lead.det h h'
theorem Lead.keep {G : Gx} {H H' : Hp} (k : ∀ a o, H a = some o → H' a = some o) : ∀ {π : List PStep} {v w : V}, Lead G H π v w → Lead G H' π v w
  | [], v, w, h => h
  | .ix _ :: π, v, w, h => by
    obtain ⟨a, vs, u, rfl, e1, e2, h⟩ := h
    exact ⟨a, vs, u, rfl, k _ _ e1, e2, h.keep k⟩
  | .fld c f :: π, v, w, h => by
    obtain ⟨a, C, dx, fvs, u, rfl, m, e1, e2, h⟩ := h
    exact ⟨a, C, dx, fvs, u, rfl, m, k _ _ e1, e2, h.keep k⟩
  | .ky s :: π, v, w, h => by
    obtain ⟨a, kvs, u, rfl, e1, e2, h⟩ := h
    exact ⟨a, kvs, u, rfl, k _ _ e1, e2, h.keep k⟩
theorem Lead.app {G : Gx} {H : Hp} : ∀ {π π' : List PStep} {v u w : V}, Lead G H π v u → Lead G H π' u w → Lead G H (π ++ π') v w
  | [], π', v, u, w, h, h' => by cases h; exact h'
  | .ix _ :: π, π', v, u, w, h, h' => by
    obtain ⟨a, vs, u, rfl, e1, e2, h⟩ := h
    exact ⟨a, vs, u, rfl, e1, e2, h.app h'⟩
  | .fld c f :: π, π', v, u, w, h, h' => by
    obtain ⟨a, C, dx, fvs, u, rfl, m, e1, e2, h⟩ := h
    exact ⟨a, C, dx, fvs, u, rfl, m, e1, e2, h.app h'⟩
  | .ky s :: π, π', v, u, w, h, h' => by
    obtain ⟨a, kvs, u, rfl, e1, e2, h⟩ := h
    exact ⟨a, kvs, u, rfl, e1, e2, h.app h'⟩
theorem look_ky (s : Str) : ∀ kvs : List (Key × V), valV kvs (Sum.inr s) = (kIx (kvs.map (·.1)) s).bind fun n => (kvs.map (·.2))[n]?
  | [] => rfl
  | p :: r => by
    unfold kIx
    by_cases h : p.1 = Sum.inr s
    · rw [valV_pos h]
      simp [List.findIdx?_cons, h]
    · rw [valV_neg h]
      have ih := look_ky s r
      unfold kIx at ih
      rw [ih]
      simp only [List.map_cons, List.findIdx?_cons, h, decide_false]
      cases List.findIdx? (fun k => decide (k = Sum.inr s)) (r.map (·.1)) <;> rfl
theorem look_ix : ∀ (fvs : List (Str × V)) (f : Str), fvs.lookup f = (fIx (fvs.map (·.1)) f).bind fun n => (fvs.map (·.2))[n]?
  | [], f => rfl
  | (g, v) :: r, f => by
    unfold fIx
    by_cases h : g = f
    · subst h
      simp [List.findIdx?_cons]
    · have hb : (f == g) = false := by simpa using fun z => h z.symm
      have ih := look_ix r f
      unfold fIx at ih
      simp only [List.lookup, hb, List.map_cons, List.findIdx?_cons, h, decide_false]
      rw [ih]
      cases List.findIdx? (fun g => decide (g = f)) (r.map (·.1)) <;> rfl
theorem set_zip : ∀ (fvs : List (Str × V)) (j : Nat) (v : V), ∃ fvs' : List (Str × V), fvs'.map (·.1) = fvs.map (·.1) ∧ fvs'.map (·.2) = (fvs.map (·.2)).set j v
  | [], j, v => ⟨[], rfl, rfl⟩
  | (g, w) :: r, 0, v => ⟨(g, v) :: r, rfl, rfl⟩
  | (g, w) :: r, j + 1, v => by
    obtain ⟨r', h1, h2⟩ := set_zip r j v
    exact ⟨(g, w) :: r', by simp [h1], by simp [h2]⟩
section
variable {G : Gx} {F F' H H' : Hp} {A A' B : AS} {ρ : Env} {σ : L2.St}
/-- a part apart from the rest -/
theorem path_open : ∀ {π : List PStep} {od s : OD} {v : V} {A : AS}, OT G F H od v A → od.at π = some s → ∃ w B C, Lead G H π v w ∧ OT G F H s w B ∧ Cut A B C ∧
    ∀ F' H' s' od' B' A', od.putAt π s' = some od' → Le F F' → (∀ a, C a → H' a = H a) → OT G F' H' s' w B' → Cut A' B' C → OT G F' H' od' v A'
  | [], od, s, v, A, h, e => by
    cases e
    refine ⟨v, A, fun _ => False, rfl, h, .nil_r fun _ z => z, fun F' H' s' od' B' A' ep le k ho c => ?_⟩
    cases ep
    have : A' = B' := by
      funext a
      exact propext ⟨fun z => ((c.1 a).1 z).elim id fun y => y.elim, c.l⟩
    subst this
    exact ho
  | .ix k :: π, od, s, v, A, h, e => by
    cases od with
    | l xs =>
      simp only [OD.at] at e
      cases q1 : ixN xs.length k with
      | none => rw [q1] at e; cases e
      | some j =>
        rw [q1] at e
        simp only [Option.bind_some] at e
        cases q2 : xs[j]? with
        | none => rw [q2] at e; cases e
        | some y =>
          rw [q2] at e
          simp only [Option.bind_some] at e
          simp only [OT] at h
          obtain ⟨a, vs, A1, rfl, ha, hots, cA⟩ := h
          obtain ⟨u, B1, B2, e1, hy, cB, back⟩ := hots.at q2
          obtain ⟨w, B, C, hl, hs, cC, back2⟩ := path_open hy e
          -- A = {a} + A1, A1 = B1 + B2, B1 = B + C
          obtain ⟨Y, c1, c2⟩ := cB.assoc cC
          obtain ⟨Z, c3, c4⟩ := cA.symm.assoc c1
          refine ⟨w, B, Z, ⟨a, vs, u, rfl, ha, ?_, hl⟩, hs, c3, fun F' H' s' od' B' A' ep le kk ho c => ?_⟩
          · unfold atI
            rw [hots.len, q1]
            exact e1
          · simp only [OD.putAt, q1, q2, Option.bind_some] at ep
            cases q3 : OD.putAt π y s' with
            | none => rw [q3] at ep; cases ep
            | some y' =>
              rw [q3] at ep; cases ep
              have hb := back2 F' H' s' y' B' (fun x => B' x ∨ C x) q3 le (fun x z => kk x (c4.l (c2.l z))) ho (.mk' _ _ fun x z y => c.2 x z (c4.l (c2.l y)))
              simp only [OT]
              have hna : ∀ x, (B' x ∨ C x) → ¬ B2 x := fun x z y => z.elim (fun z => c.2 x z (c4.l (c2.r y))) fun z => c2.2 x z y
              refine ⟨a, vs.set j u, fun x => (B' x ∨ C x) ∨ B2 x, rfl, ?_, back F' H' y' u _ _ le (fun x z => kk x (c4.l (c2.r z))) hb (.mk' _ _ hna), ⟨fun x => ?_, fun x z y => ?_⟩⟩
              · rw [kk a (c4.r rfl), ha]
                have : vs.set j u = vs := by
                  apply List.ext_getElem?
                  intro m
                  by_cases hm : j = m
                  · subst hm
                    rw [List.getElem?_set_self (List.getElem?_eq_some_iff.mp e1).1]
                    exact e1.symm
                  · rw [List.getElem?_set_ne hm]
                rw [this]
              · rw [c.1 x, c4.1 x, c2.1 x]
                constructor
                · rintro (z | (z | z) | z)
                  · exact .inr (.inl (.inl z))
                  · exact .inr (.inl (.inr z))
                  · exact .inr (.inr z)
                  · exact .inl z
                · rintro (z | (z | z) | z)
                  · exact .inr (.inr z)
                  · exact .inl z
                  · exact .inr (.inl (.inl z))
                  · exact .inr (.inl (.inr z))
              · subst z
                rcases y with (y | y) | y
                · exact c.2 _ y (c4.r rfl)
                · exact c4.2 _ (c2.l y) rfl
                · exact c4.2 _ (c2.r y) rfl
    | _ => simp [OD.at] at e
  | .fld c f :: π, od, s, v, A, h, e => by
    cases od with
    | o c' fs xs =>
      simp only [OD.at] at e
      split at e
      · rename_i hc
        subst hc
        cases q1 : fIx fs f with
        | none => rw [q1] at e; cases e
        | some j =>
          rw [q1] at e
          simp only [Option.bind_some] at e
          cases q2 : xs[j]? with
          | none => rw [q2] at e; cases e
          | some y =>
            rw [q2] at e
            simp only [Option.bind_some] at e
            simp only [OT] at h
            obtain ⟨a, Cc, dx, fvs, A1, rfl, hm, ha, hk, hots, cA⟩ := h
            obtain ⟨u, B1, B2, e1, hy, cB, back⟩ := hots.at q2
            obtain ⟨w, B, C, hl, hs, cC, back2⟩ := path_open hy e
            obtain ⟨Y, c1, c2⟩ := cB.assoc cC
            obtain ⟨Z, c3, c4⟩ := cA.symm.assoc c1
            refine ⟨w, B, Z, ⟨a, Cc, dx, fvs, u, rfl, hm, ha, ?_, hl⟩, hs, c3, fun F' H' s' od' B' A' ep le kk ho c => ?_⟩
            · rw [look_ix, hk, q1]
              exact e1
            · simp only [OD.putAt, if_true, q1, q2, Option.bind_some] at ep
              cases q3 : OD.putAt π y s' with
              | none => rw [q3] at ep; cases ep
              | some y' =>
                rw [q3] at ep; cases ep
                have hb := back2 F' H' s' y' B' (fun x => B' x ∨ C x) q3 le (fun x z => kk x (c4.l (c2.l z))) ho (.mk' _ _ fun x z y => c.2 x z (c4.l (c2.l y)))
                simp only [OT]
                have hna : ∀ x, (B' x ∨ C x) → ¬ B2 x := fun x z y => z.elim (fun z => c.2 x z (c4.l (c2.r y))) fun z => c2.2 x z y
                have hbk := back F' H' y' u _ (fun x => (B' x ∨ C x) ∨ B2 x) le (fun x z => kk x (c4.l (c2.r z))) hb (.mk' _ _ hna)
                have : (fvs.map (·.2)).set j u = fvs.map (·.2) := by
                  apply List.ext_getElem?
                  intro m
                  by_cases hm : j = m
                  · subst hm
                    rw [List.getElem?_set_self (List.getElem?_eq_some_iff.mp e1).1]
                    exact e1.symm
                  · rw [List.getElem?_set_ne hm]
                rw [this] at hbk
                refine ⟨a, Cc, dx, fvs, fun x => (B' x ∨ C x) ∨ B2 x, rfl, hm, ?_, hk, hbk, ⟨fun x => ?_, fun x z y => ?_⟩⟩
                · rw [kk a (c4.r rfl), ha]
                · rw [c.1 x, c4.1 x, c2.1 x]
                  constructor
                  · rintro (z | (z | z) | z)
                    · exact .inr (.inl (.inl z))
                    · exact .inr (.inl (.inr z))
                    · exact .inr (.inr z)
                    · exact .inl z
                  · rintro (z | (z | z) | z)
                    · exact .inr (.inr z)
                    · exact .inl z
                    · exact .inr (.inl (.inl z))
                    · exact .inr (.inl (.inr z))
                · subst z
                  rcases y with (y | y) | y
                  · exact c.2 _ y (c4.r rfl)
                  · exact c4.2 _ (c2.l y) rfl
                  · exact c4.2 _ (c2.r y) rfl
      · cases e
    | _ => simp [OD.at] at e
  | .ky t :: π, od, s, v, A, h, e => by
    cases od with
    | k ks xs =>
      simp only [OD.at] at e
      · cases q1 : kIx ks t with
        | none => rw [q1] at e; cases e
        | some j =>
          rw [q1] at e
          simp only [Option.bind_some] at e
          cases q2 : xs[j]? with
          | none => rw [q2] at e; cases e
          | some y =>
            rw [q2] at e
            simp only [Option.bind_some] at e
            simp only [OT] at h
            obtain ⟨a, fvs, A1, rfl, ha, hk, hots, cA⟩ := h
            obtain ⟨u, B1, B2, e1, hy, cB, back⟩ := hots.at q2
            obtain ⟨w, B, C, hl, hs, cC, back2⟩ := path_open hy e
            obtain ⟨Y, c1, c2⟩ := cB.assoc cC
            obtain ⟨Z, c3, c4⟩ := cA.symm.assoc c1
            refine ⟨w, B, Z, ⟨a, fvs, u, rfl, ha, ?_, hl⟩, hs, c3, fun F' H' s' od' B' A' ep le kk ho c => ?_⟩
            · rw [look_ky, hk, q1]
              exact e1
            · simp only [OD.putAt, q1, q2, Option.bind_some] at ep
              cases q3 : OD.putAt π y s' with
              | none => rw [q3] at ep; cases ep
              | some y' =>
                rw [q3] at ep; cases ep
                have hb := back2 F' H' s' y' B' (fun x => B' x ∨ C x) q3 le (fun x z => kk x (c4.l (c2.l z))) ho (.mk' _ _ fun x z y => c.2 x z (c4.l (c2.l y)))
                simp only [OT]
                have hna : ∀ x, (B' x ∨ C x) → ¬ B2 x := fun x z y => z.elim (fun z => c.2 x z (c4.l (c2.r y))) fun z => c2.2 x z y
                have hbk := back F' H' y' u _ (fun x => (B' x ∨ C x) ∨ B2 x) le (fun x z => kk x (c4.l (c2.r z))) hb (.mk' _ _ hna)
                have : (fvs.map (·.2)).set j u = fvs.map (·.2) := by
                  apply List.ext_getElem?
                  intro m
                  by_cases hm : j = m
                  · subst hm
                    rw [List.getElem?_set_self (List.getElem?_eq_some_iff.mp e1).1]
                    exact e1.symm
                  · rw [List.getElem?_set_ne hm]
                rw [this] at hbk
                refine ⟨a, fvs, fun x => (B' x ∨ C x) ∨ B2 x, rfl, ?_, hk, hbk, ⟨fun x => ?_, fun x z y => ?_⟩⟩
                · rw [kk a (c4.r rfl), ha]
                · rw [c.1 x, c4.1 x, c2.1 x]
                  constructor
                  · rintro (z | (z | z) | z)
                    · exact .inr (.inl (.inl z))
                    · exact .inr (.inl (.inr z))
                    · exact .inr (.inr z)
                    · exact .inl z
                  · rintro (z | (z | z) | z)
                    · exact .inr (.inr z)
                    · exact .inl z
                    · exact .inr (.inl (.inl z))
                    · exact .inr (.inl (.inr z))
                · subst z
                  rcases y with (y | y) | y
                  · exact c.2 _ y (c4.r rfl)
                  · exact c4.2 _ (c2.l y) rfl
                  · exact c4.2 _ (c2.r y) rfl
    | _ => simp [OD.at] at e
end
end Vs

/-! VsP: parts are read, written. -/
namespace Vs
open PySem L2 PySem.Spec PyProof.Rows
section
variable {G : Gx} {F F' H H' : Hp} {A A' B : AS} {ρ κ : Env} {σ ς : L2.St}
theorem Stt.part {i : Nat} {π : List PStep} {od s : OD} {v0 : V} (S : Stt G F H ρ σ A) (e : ρ[i]? = some (some od)) (hs : od.at π = some s) (ev : σ[i]? = some (some v0)) :
    ∃ w B C, Lead G H π v0 w ∧ OT G F H s w B ∧ Cut A B C ∧ ∀ F' H' s' od' B', od.putAt π s' = some od' → Le F F' → Le F' H' → (∀ a, C a → H' a = H a) → OT G F' H' s' w B' → (∀ a, B' a → ¬ C a) → (∀ a, B' a → F' a = none) → (∀ a, C a → F' a = none) →
      ∃ A', Stt G F' H' (ρ.set i (some od')) σ A' ∧ ∀ a, A' a ↔ B' a ∨ C a := by
  obtain ⟨v, A1, A2, h1, h2, h3, c⟩ := S.sl.at e
  rw [ev] at h1
  cases h1
  obtain ⟨w, B, C1, hl, ho, c1, back⟩ := path_open h2 hs
  obtain ⟨Y, c2, c3⟩ := c.assoc c1
  refine ⟨w, B, Y, hl, ho, c2, fun F' H' s' od' B' ep le le2 k ho' hn hB hC => ?_⟩
  have hb := back F' H' s' od' B' (fun a => B' a ∨ C1 a) ep le (fun a z => k a (c3.l z)) ho' (.mk' _ _ fun a z y => hn a z (c3.l y))
  have h4 := h3.mono le fun a z => k a (c3.r z)
  have e0 : (ρ.set i none)[i]? = some none := List.getElem?_set_self (List.getElem?_eq_some_iff.mp e).1
  have cc : ∀ a, (B' a ∨ C1 a) → ¬ A2 a := fun a z y => z.elim (fun z => hn a z (c3.r y)) fun z => c3.2 a z y
  have h5 := h4.put e0 ev hb (.mk' _ _ cc)
  rw [List.set_set] at h5
  refine ⟨fun a => (B' a ∨ C1 a) ∨ A2 a, ⟨le2, h5, fun a z => ?_⟩, fun a => ?_⟩
  · rcases z with (z | z) | z
    · exact hB a z
    · exact hC a (c3.l z)
    · exact hC a (c3.r z)
  · constructor
    · rintro ((z | z) | z)
      · exact .inl z
      · exact .inr (c3.l z)
      · exact .inr (c3.r z)
    · rintro (z | z)
      · exact .inl (.inl z)
      · exact ((c3.1 a).1 z).elim (fun z => .inl (.inr z)) .inr
end
/-- the reading of a part -/
def tPath (G : Gx) (i : Nat) (π : List PStep) : TE := fun σ H Q => ∃ v w, σ[i]? = some (some v) ∧ Lead G H π v w ∧ Q w H
abbrev PP (X : Cx) (G : Gx) (e : Expr) (i : Nat) (π : List PStep) : Prop := PE X e (tPath G i π)
def slotAt (ρ : Env) (i : Nat) (π : List PStep) : Option OD := (ρ[i]?.join).bind (OD.at π)
/-- data that stands at a part -/
def mGet (i : Nat) (π : List PStep) : M OD := fun ρ => match slotAt ρ i π with
  | some (.v d) => .ok (.v d) ρ
  | _ => .stuck
/-- operands that are read at once -/
inductive Atom where
  | c (d : D)
  | p (i : Nat) (π : List PStep)
def Atom.rd (ρ : Env) : Atom → Option D
  | .c d => some d
  | .p i π => (slotAt ρ i π).bind OD.sh
def rdAll (ρ : Env) : List Atom → Option (List D)
  | [] => some []
  | a :: as => (a.rd ρ).bind fun d => (rdAll ρ as).map fun ds => d :: ds
def mAtm (op : List D → Option OD) (as : List Atom) : M OD := fun ρ => match (rdAll ρ as).bind op with
  | some z => .ok z ρ
  | none => .stuck
def tAtom (G : Gx) : Atom → TE
  | .c d => fun σ H Q => ∀ v, flat1 d = some v → Q v H
  | .p i π => tPath G i π
def tAtoms (G : Gx) : List Atom → TA
  | [] => tNil
  | a :: as => tCons (tAtom G a) (tAtoms G as)
/-- the last item is taken away -/
def mPop (i : Nat) (π : List PStep) : M OD := fun ρ => match ρ[i]?.join with
  | some od => match od.at π with
    | some (.l xs) => match xs[xs.length - 1]?, od.putAt π (.l xs.dropLast) with
      | some x, some od' => .ok x (ρ.set i (some od'))
      | _, _ => .stuck
    | _ => .stuck
  | none => .stuck
def zAppP (i : Nat) (π : List PStep) (fv : M OD) : SM := fun ρ => match slotAt ρ i π with
  | some (.l _) => (fv ρ).bind fun v ρ1 => match ρ1[i]?.join with
    | some od => match od.at π with
      | some (.l xs) => match od.putAt π (.l (xs ++ [v])) with
        | some od' => if xs.length < sizeLine then .ok .nx (ρ1.set i (some od')) else .stuck
        | none => .stuck
      | _ => .stuck
    | none => .stuck
  | _ => .stuck
/-- the field f becomes v -/
def putFd (fs : List Str) (xs : List OD) (f : Str) (v : OD) : List Str × List OD := match fIx fs f with
  | some j => (fs, xs.set j v)
  | none => (fs ++ [f], xs ++ [v])
def zSetF (i : Nat) (π : List PStep) (c f : Str) (fv : M OD) : SM := fun ρ => (fv ρ).bind fun v ρ1 => match ρ1[i]?.join with
  | some od => match od.at π with
    | some (.o c' fs xs) => if c = c' ∧ fs.length < 1000 then match od.putAt π (.o c (putFd fs xs f v).1 (putFd fs xs f v).2) with
      | some od' => .ok .nx (ρ1.set i (some od'))
      | none => .stuck
      else .stuck
    | _ => .stuck
  | none => .stuck
section
variable {G : Gx} {W : WX} {F F' F1 F2 F3 H H' H1 H2 H3 : Hp} {A A' A1 A2 A3 : AS} {ρ ρ' κ : Env} {σ ς : L2.St} {X : Cx} {e b : Expr} {pos p q : Pos} {x f : Str} {i : Nat} {π : List PStep} {k : Nat} {bb : Bool}
theorem slotAt_some {s : OD} (h : slotAt ρ i π = some s) : ∃ od, ρ[i]? = some (some od) ∧ od.at π = some s := by
  unfold slotAt at h
  cases e : ρ[i]?.join with
  | none => rw [e] at h; cases h
  | some od => rw [e] at h; exact ⟨od, join_some e, h⟩
theorem pp_var (h : PE X e (tVar i)) : PP X G e i [] := PE.of h fun σ H Q z => by
  obtain ⟨v, w, e1, e2, z⟩ := z
  cases e2
  exact ⟨v, e1, z⟩
/-- x[k], k written -/
theorem pp_ix {n : Int} (K : Ok X G W k bb) (h : PP X G e i π) (hb : PE X b (tC (.int n))) (hs : PlainIx b := by intro _ _; rfl) : PP X G (.Subscript e b pos) i (π ++ [.ix n]) :=
  PE.of (pe_ix (ix_any K.u1) h hb hs) fun σ H Q z => by
    obtain ⟨v, w, e1, e2, z⟩ := z
    have : ∀ {π : List PStep} {v w : V}, Lead G H (π ++ [.ix n]) v w → ∃ u, Lead G H π v u ∧ Lead G H [.ix n] u w := by
      intro π
      induction π with
      | nil => intro v w h; exact ⟨v, rfl, h⟩
      | cons s π ih =>
        intro v w h
        cases s with
        | ix m =>
          obtain ⟨a, vs, u, rfl, h1, h2, h⟩ := h
          obtain ⟨u', h3, h4⟩ := ih h
          exact ⟨u', ⟨a, vs, u, rfl, h1, h2, h3⟩, h4⟩
        | fld c g =>
          obtain ⟨a, C, dx, fvs, u, rfl, m, h1, h2, h⟩ := h
          obtain ⟨u', h3, h4⟩ := ih h
          exact ⟨u', ⟨a, C, dx, fvs, u, rfl, m, h1, h2, h3⟩, h4⟩
        | ky t =>
          obtain ⟨a, kvs, u, rfl, h1, h2, h⟩ := h
          obtain ⟨u', h3, h4⟩ := ih h
          exact ⟨u', ⟨a, kvs, u, rfl, h1, h2, h3⟩, h4⟩
    obtain ⟨u, h1, a, vs, u', rfl, h2, h3, rfl⟩ := this e2
    refine ⟨v, _, e1, h1, ?_⟩
    exact .inl (.inl ⟨a, vs, n, u', rfl, rfl, .inl (.inl h2), h3, z⟩)
/-- x[t], t a written text -/
theorem pp_ky {t : Str} (K : Ok X G W k bb) (h : PP X G e i π) (hb : PE X b (tC (.str t))) (hs : PlainIx b := by intro _ _; rfl) : PP X G (.Subscript e b pos) i (π ++ [.ky t]) :=
  PE.of (pe_ix (ix_any K.u1) h hb hs) fun σ H Q z => by
    obtain ⟨v, w, e1, e2, z⟩ := z
    have : ∀ {π : List PStep} {v w : V}, Lead G H (π ++ [.ky t]) v w → ∃ u, Lead G H π v u ∧ Lead G H [.ky t] u w := by
      intro π
      induction π with
      | nil => intro v w h; exact ⟨v, rfl, h⟩
      | cons s π ih =>
        intro v w h
        cases s with
        | ix m =>
          obtain ⟨a, vs, u, rfl, h1, h2, h⟩ := h
          obtain ⟨u', h3, h4⟩ := ih h
          exact ⟨u', ⟨a, vs, u, rfl, h1, h2, h3⟩, h4⟩
        | fld c g =>
          obtain ⟨a, C, dx, fvs, u, rfl, m, h1, h2, h⟩ := h
          obtain ⟨u', h3, h4⟩ := ih h
          exact ⟨u', ⟨a, C, dx, fvs, u, rfl, m, h1, h2, h3⟩, h4⟩
        | ky t' =>
          obtain ⟨a, kvs, u, rfl, h1, h2, h⟩ := h
          obtain ⟨u', h3, h4⟩ := ih h
          exact ⟨u', ⟨a, kvs, u, rfl, h1, h2, h3⟩, h4⟩
    obtain ⟨u, h1, a, kvs, u', rfl, h2, h3, rfl⟩ := this e2
    refine ⟨v, _, e1, h1, ?_⟩
    exact .inr ⟨a, u', rfl, .inl ⟨kvs, Sum.inr t, .of h2, rfl, h3.symm⟩, z⟩
/-- x.f -/
theorem pp_fld {c : Str} {C : Addr} (h : PP X G e i π) (hC : G.mg c = some (.ref C)) (cl : Cls X.K C) (na : NoAttr X.K C f) (hb : attributeBase e f X.env (eval e X.env) = eval e X.env := by rfl) : PP X G (.Attribute e f pos) i (π ++ [.fld c f]) :=
  PE.of (pe_fld h hb) fun σ H Q z => by
    obtain ⟨v, w, e1, e2, z⟩ := z
    have : ∀ {π : List PStep} {v w : V}, Lead G H (π ++ [.fld c f]) v w → ∃ u, Lead G H π v u ∧ Lead G H [.fld c f] u w := by
      intro π
      induction π with
      | nil => intro v w h; exact ⟨v, rfl, h⟩
      | cons s π ih =>
        intro v w h
        cases s with
        | ix m =>
          obtain ⟨a, vs, u, rfl, h1, h2, h⟩ := h
          obtain ⟨u', h3, h4⟩ := ih h
          exact ⟨u', ⟨a, vs, u, rfl, h1, h2, h3⟩, h4⟩
        | fld c g =>
          obtain ⟨a, C, dx, fvs, u, rfl, m, h1, h2, h⟩ := h
          obtain ⟨u', h3, h4⟩ := ih h
          exact ⟨u', ⟨a, C, dx, fvs, u, rfl, m, h1, h2, h3⟩, h4⟩
        | ky t =>
          obtain ⟨a, kvs, u, rfl, h1, h2, h⟩ := h
          obtain ⟨u', h3, h4⟩ := ih h
          exact ⟨u', ⟨a, kvs, u, rfl, h1, h2, h3⟩, h4⟩
    obtain ⟨u, h1, a, C', dx, fvs, u', rfl, hm, h2, h3, rfl⟩ := this e2
    rw [hC] at hm
    cases hm
    exact ⟨v, _, e1, h1, a, C, dx, fvs, _, rfl, h2, cl, na, h3, z⟩
theorem sx_get (h : PP X G e i π) : SX X G W true e (mGet i π) := PE.of h fun σ H Q z => by
  obtain ⟨F, ρ, A, κ, ς, S, hl, z⟩ := z
  unfold mGet at z
  split at z
  · rename_i d e1
    obtain ⟨od, e2, e3⟩ := slotAt_some e1
    obtain ⟨v0, A1, A2, h1, _⟩ := S.sl.at (getKap (κ := κ) e2)
    obtain ⟨w, B, C, h2, h3, _⟩ := S.part (getKap (κ := κ) e2) e3 h1
    rw [getSig hl] at h1
    simp only [OT] at h3
    exact ⟨v0, w, h1, h2, z F H w A .refl (S.push_v h3.1)⟩
  · exact z.elim
/-- the pop of a part -/
theorem OTs.unsnoc : ∀ {xs : List OD} {vs : List V} {A : AS} {x : OD}, OTs G F H xs vs A → xs[xs.length - 1]? = some x → ∃ v A1 A2, vs[vs.length - 1]? = some v ∧ OT G F H x v A1 ∧ OTs G F H xs.dropLast vs.dropLast A2 ∧ Cut A A1 A2
  | [], vs, A, x, h, e => by simp at e
  | [y], vs, A, x, h, e => by
    simp at e; subst e
    simp only [OTs] at h
    obtain ⟨v, r, B1, B2, rfl, h1, ⟨rfl, h2⟩, c⟩ := h
    exact ⟨v, B1, B2, rfl, h1, by simp only [List.dropLast, OTs]; exact ⟨trivial, h2⟩, c⟩
  | y :: z :: xs, vs, A, x, h, e => by
    rw [OTs] at h
    obtain ⟨v, r, B1, B2, rfl, h1, h2, c⟩ := h
    have hr := h2.len
    obtain ⟨w, C1, C2, e1, h3, h4, c2⟩ := OTs.unsnoc (xs := z :: xs) h2 (by simpa using e)
    obtain ⟨Y, c3, c4⟩ := c.symm.assoc c2
    cases r with
    | nil => simp at hr
    | cons r0 r =>
      refine ⟨w, C1, Y, by simpa using e1, h3, ?_, c3⟩
      show OTs G F H (y :: (z :: xs).dropLast) (v :: (r0 :: r).dropLast) Y
      rw [OTs]
      exact ⟨v, _, B1, C2, rfl, h1, h4, c4.symm⟩
theorem sx_pop (hG : G.K = X.K) (h : PE X e (tBM0 X.K "list" rPop (tPath G i π))) : SX X G W false e (mPop i π) := PE.of h fun σ H Q z => by
  obtain ⟨F, ρ, A, κ, ς, S, hl, z⟩ := z
  unfold mPop at z
  split at z
  · rename_i od e0
    split at z
    · rename_i xs e1
      split at z
      · rename_i y od' e2 e3
        have e0' := getKap (κ := κ) (join_some e0)
        obtain ⟨v0, A1, A2, h1, _⟩ := S.sl.at e0'
        obtain ⟨w, B, C, h2, h3, cA, back⟩ := S.part e0' e1 h1
        have h1' := h1
        rw [getSig hl] at h1'
        simp only [OT] at h3
        obtain ⟨a, vs, B1, rfl, ha, hots, cB⟩ := h3
        refine ⟨v0, _, h1', h2, .inl ⟨rfl, vs, .of ha⟩, ?_⟩
        obtain ⟨u, D1, D2, e4, ho, hots2, cD⟩ := hots.unsnoc e2
        refine ⟨a, vs, u, rfl, rfl, ha, e4, ?_⟩
        have hna : ∀ b, B1 b → b ≠ a := fun b z y => cB.2 b y z
        have hF : ∀ b, A b → F b = none := S.fr
        have le : Le F (upd H a (.lst vs.dropLast)) := fun b o q => by
          have : b ≠ a := fun y => by rw [y, hF a (cA.l (cB.l rfl))] at q; cases q
          rw [upd_ne this]; exact S.le b o q
        obtain ⟨A', S', hA'⟩ := back F (upd H a (.lst vs.dropLast)) (.l xs.dropLast) od' (fun b => b = a ∨ D2 b) e3 (.refl _) le (fun b z => upd_ne fun y => cA.2 b (cB.l y) z) (by
          simp only [OT]
          exact ⟨a, _, D2, rfl, upd_same, hots2.mono (.refl _) fun b z => upd_ne (hna b (cD.r z)), .mk' _ _ fun b y z => hna b (cD.r z) y⟩)
          (fun b z y => cA.2 b (z.elim (fun z => cB.l z) fun z => cB.r (cD.r z)) y) (fun b z => hF b (cA.l (z.elim (fun z => cB.l z) fun z => cB.r (cD.r z)))) (fun b z => hF b (cA.r z))
        rw [setKap] at S'
        have ho' : OT G F (upd H a (.lst vs.dropLast)) y u D1 := ho.mono (.refl _) fun b z => upd_ne (hna b (cD.l z))
        obtain ⟨A3, S3, hA3⟩ := S'.push ho' fun b z => ⟨hF b (cA.l (cB.r (cD.l z))), fun y => ((hA' b).1 y).elim (fun y => y.elim (fun y => hna b (cD.l z) y) fun y => cD.2 b z y) fun y => cA.2 b (cB.r (cD.l z)) y⟩
        refine z F _ u A3 ⟨.refl _, fun b o q n => ?_, fun b z => .inl ?_, fun _ _ z => .inl z⟩ S3
        · have : b ≠ a := fun y => n ⟨rfl, y ▸ cA.l (cB.l rfl)⟩
          rw [upd_ne this]; exact q
        · rcases (hA3 b).1 z with z | z
          · exact cA.l (cB.r (cD.l z))
          · rcases (hA' b).1 z with z | z
            · exact cA.l (z.elim (fun z => cB.l z) fun z => cB.r (cD.r z))
            · exact cA.r z
      · exact z.elim
    · exact z.elim
  · exact z.elim
end
end Vs

/-! VsQ: parts are written; operands that are parts. -/
namespace Vs
open PySem L2 PySem.Spec PyProof.Rows
section
variable {G : Gx} {W : WX} {pn : List Nat} {F F' F1 F2 F3 H H' H1 H2 H3 : Hp} {A A' A1 A2 A3 B : AS} {ρ ρ' κ : Vs.Env} {σ ς : L2.St} {X : Cx} {st : Stmt} {e b : Expr} {pos p q : Pos} {x f : Str} {i : Nat} {π : List PStep} {k : Nat}
/-- a write into a part, seen from the state -/
theorem go_write {a : Addr} {o : HO} {A0 A'' : AS} (ha : A a) (hs : ∀ b, A'' b → A b) : Go false F H A F (upd H a o) A'' :=
  ⟨.refl _, fun b w z n => by
    have : b ≠ a := fun y => n ⟨rfl, y ▸ ha⟩
    rw [upd_ne this]; exact z, fun b z => .inl (hs b z), fun _ _ z => .inl z⟩
theorem le_write {a : Addr} {o : HO} (S : Stt G F H ρ σ A) (ha : A a) : Le F (upd H a o) := fun b u q => by
  have : b ≠ a := fun y => by rw [y, S.fr a ha] at q; cases q
  rw [upd_ne this]; exact S.le b u q
theorem z_appP {fv : M OD} (h : PS X st (tDrop (tBM X.K "list" rAppend (tPath G i π) (tCons (TX G W true fv) tNil)))) : SS X G W pn st (zAppP i π fv) := PS.of h fun D σ H z => by
  obtain ⟨F, ρ, A, S, z⟩ := z
  unfold zAppP at z
  split at z
  · rename_i ys e0
    obtain ⟨od0, e1, e2⟩ := slotAt_some e0
    obtain ⟨v0, _, _, h1, _⟩ := S.sl.at e1
    obtain ⟨w, B0, C0, h2, h3, _⟩ := S.part e1 e2 h1
    have h3' := h3
    simp only [OT] at h3'
    obtain ⟨a, vs0, _, rfl, ha0, _⟩ := h3'
    refine ⟨v0, _, h1, h2, .inl ⟨rfl, vs0, .of ha0⟩, ?_⟩
    refine TX.then S z fun v ρ1 F1 H1 x A1 e3 g1 S1 z => ?_
    split at z
    · rename_i od q1
      split at z
      · rename_i xs q2
        split at z
        · rename_i od' q3
          split at z
          · rename_i hz
            obtain ⟨B, A0, hv, S0, c0, hB⟩ := S1.pop
            obtain ⟨w1, B1, C1, h4, h5, cA, back⟩ := S0.part (join_some q1) q2 h1
            have hw : w1 = .ref a := Lead.det h4 (h2.keep fun a o q => g1.keep a o q fun n => by cases n.1)
            subst hw
            simp only [OT] at h5
            obtain ⟨a', vs, D1, ea, ha, hots, cB⟩ := h5
            cases ea
            have haA : A0 a := cA.l (cB.l rfl)
            have hna : ∀ b, D1 b → b ≠ a := fun b z y => cB.2 b y z
            have hBa : ∀ b, B b → b ≠ a := fun b z y => c0.2 b z (y ▸ haA)
            refine ⟨a, vs, x, rfl, rfl, ha, by rw [hots.len]; exact hz, ?_⟩
            obtain ⟨A', S', hA'⟩ := back F1 (upd H1 a (.lst (vs ++ [x]))) (.l (xs ++ [v])) od' (fun b => b = a ∨ (D1 b ∨ B b)) q3 (.refl _) (le_write S0 haA) (fun b z => upd_ne fun y => cA.2 b (cB.l y) z) (by
              simp only [OT]
              refine ⟨a, _, fun b => D1 b ∨ B b, rfl, upd_same, ?_, .mk' _ _ fun b y z => z.elim (fun z => hna b z y) fun z => hBa b z y⟩
              exact OTs.snoc (hots.mono (.refl _) fun b z => upd_ne (hna b z)) (hv.mono (.refl _) fun b z => upd_ne (hBa b z)) (.mk' _ _ fun b z y => c0.2 b y (cA.l (cB.r z))))
              (fun b z y => z.elim (fun z => cA.2 b (cB.l z) y) fun z => z.elim (fun z => cA.2 b (cB.r z) y) fun z => c0.2 b z (cA.r y))
              (fun b z => z.elim (fun z => S0.fr b (z ▸ haA)) fun z => z.elim (fun z => S0.fr b (cA.l (cB.r z))) fun z => hB b z) (fun b z => S0.fr b (cA.r z))
            refine z F1 _ σ A' (go_write (A0 := A0) (c0.r haA) fun b z => ?_) .refl S'
            rcases (hA' b).1 z with (z | z | z) | z
            · exact c0.r (z ▸ haA)
            · exact c0.r (cA.l (cB.r z))
            · exact c0.l z
            · exact c0.r (cA.r z)
          · exact z.elim
        · exact z.elim
      · exact z.elim
    · exact z.elim
  · exact z.elim
/-- fields -/
theorem putF_fd (fvs : List (Str × V)) (f : Str) (v : V) : (putF f v fvs).map (·.1) = (match fIx (fvs.map (·.1)) f with | some _ => fvs.map (·.1) | none => fvs.map (·.1) ++ [f]) ∧
    (putF f v fvs).map (·.2) = (match fIx (fvs.map (·.1)) f with | some j => (fvs.map (·.2)).set j v | none => fvs.map (·.2) ++ [v]) := by
  induction fvs with
  | nil => exact ⟨rfl, rfl⟩
  | cons p r ih =>
    obtain ⟨g, w⟩ := p
    unfold putF fIx
    by_cases h : g = f
    · subst h
      simp [List.findIdx?_cons]
    · rw [if_neg h]
      unfold fIx at ih
      simp only [List.map_cons, List.findIdx?_cons, h, decide_false]
      cases q : List.findIdx? (fun g => decide (g = f)) (r.map (·.1)) with
      | none => rw [q] at ih; simp [ih.1, ih.2]
      | some j => rw [q] at ih; simp [ih.1, ih.2]
theorem z_setF {c : Str} {C : Addr} {p : Bool} {fv : M OD} (hC : G.mg c = some (.ref C)) (cl : Cls X.K C) (na : NoAttr X.K C f) (h : PS X st (sFld X.K (tPath G i π) (TX G W p fv) f)) : SS X G W pn st (zSetF i π c f fv) := PS.of h fun D σ H z => by
  obtain ⟨F, ρ, A, S, z⟩ := z
  unfold zSetF at z
  refine TX.then S z fun v ρ1 F1 H1 x A1 e3 g1 S1 z => ?_
  split at z
  · rename_i od q1
    split at z
    · rename_i c' fs xs q2
      split at z
      · rename_i hc
        obtain ⟨rfl, hl⟩ := hc
        split at z
        · rename_i od' q3
          obtain ⟨B, A0, hv, S0, c0, hB⟩ := S1.pop
          obtain ⟨v0, _, _, h1, _⟩ := S0.sl.at (join_some q1)
          obtain ⟨w1, B1, C1, h4, h5, cA, back⟩ := S0.part (join_some q1) q2 h1
          simp only [OT] at h5
          obtain ⟨a, C', dx, fvs, D1, rfl, hm, ha, hk, hots, cB⟩ := h5
          rw [hC] at hm
          cases hm
          have haA : A0 a := cA.l (cB.l rfl)
          have hna : ∀ b, D1 b → b ≠ a := fun b z y => cB.2 b y z
          have hBa : ∀ b, B b → b ≠ a := fun b z y => c0.2 b z (y ▸ haA)
          refine ⟨v0, _, h1, h4, a, C, dx, fvs, rfl, ha, cl, na, by rw [← hk, List.length_map] at hl; exact hl, ?_⟩
          have hots' := hots.mono (F' := F1) (H' := upd H1 a (.ins C dx (putF f x fvs))) (.refl _) fun b z => upd_ne (hna b z)
          have hv' := hv.mono (F' := F1) (H' := upd H1 a (.ins C dx (putF f x fvs))) (.refl _) fun b z => upd_ne (hBa b z)
          have main : ∃ E : AS, (∀ b, E b → D1 b ∨ B b) ∧ OTs G F1 (upd H1 a (.ins C dx (putF f x fvs))) (putFd fs xs f v).2 ((putF f x fvs).map (·.2)) E ∧ (putF f x fvs).map (·.1) = (putFd fs xs f v).1 := by
            obtain ⟨p1, p2⟩ := putF_fd fvs f x
            rw [p1, p2, hk]
            unfold putFd
            cases q : fIx fs f with
            | none =>
              refine ⟨fun b => D1 b ∨ B b, fun _ z => z, ?_, rfl⟩
              exact OTs.snoc hots' hv' (.mk' _ _ fun b z y => c0.2 b y (cA.l (cB.r z)))
            | some j =>
              have hj : j < xs.length := by
                have h1 := hots.len
                have h2 : fs.length = xs.length := by rw [← hk, List.length_map]; rw [List.length_map] at h1; exact h1
                rw [← h2]
                exact (List.findIdx?_eq_some_iff_findIdx_eq.mp q).1
              obtain ⟨u, E1, E2, _, _, cE, bk⟩ := hots'.at (List.getElem?_eq_getElem hj)
              refine ⟨fun b => B b ∨ E2 b, fun b z => z.elim .inr fun z => .inl (cE.r z), ?_, rfl⟩
              exact bk F1 _ v x B _ (.refl _) (fun _ _ => rfl) hv' (.mk' _ _ fun b z y => c0.2 b z (cA.l (cB.r (cE.r y))))
          obtain ⟨E, hE, ho, hks⟩ := main
          obtain ⟨A', S', hA'⟩ := back F1 (upd H1 a (.ins C dx (putF f x fvs))) (.o c (putFd fs xs f v).1 (putFd fs xs f v).2) od' (fun b => b = a ∨ E b) q3 (.refl _) (le_write S0 haA) (fun b z => upd_ne fun y => cA.2 b (cB.l y) z) (by
            simp only [OT]
            exact ⟨a, C, dx, _, E, rfl, hC, upd_same, hks, ho, .mk' _ _ fun b y z => (hE b z).elim (fun z => hna b z y) fun z => hBa b z y⟩)
            (fun b z y => z.elim (fun z => cA.2 b (cB.l z) y) fun z => (hE b z).elim (fun z => cA.2 b (cB.r z) y) fun z => c0.2 b z (cA.r y))
            (fun b z => z.elim (fun z => S0.fr b (z ▸ haA)) fun z => (hE b z).elim (fun z => S0.fr b (cA.l (cB.r z))) fun z => hB b z) (fun b z => S0.fr b (cA.r z))
          refine z F1 _ σ A' (go_write (A0 := A0) (c0.r haA) fun b z => ?_) .refl S'
          rcases (hA' b).1 z with (z | z) | z
          · exact c0.r (z ▸ haA)
          · exact (hE b z).elim (fun z => c0.r (cA.l (cB.r z))) fun z => c0.l z
          · exact c0.r (cA.r z)
        · exact z.elim
      · exact z.elim
    · exact z.elim
  · exact z.elim
/-! ### operands read at once -/
theorem atoms_run {as : List Atom} {ds : List D} {Q : List V → Hp → Prop} (S : Stt G F H (κ ++ ρ) (ς ++ σ) A) (hl : ς.length = κ.length) : rdAll ρ as = some ds → (∀ vs, RepBs G F H ds vs → Q vs H) → tAtoms G as σ H Q := by
  induction as generalizing ds Q with
  | nil => intro e h; cases e; exact h [] rfl
  | cons a as ih =>
    intro e h
    simp only [rdAll] at e
    cases q1 : a.rd ρ with
    | none => rw [q1] at e; cases e
    | some d =>
      rw [q1] at e
      simp only [Option.bind_some] at e
      cases q2 : rdAll ρ as with
      | none => rw [q2] at e; cases e
      | some es =>
        rw [q2] at e; cases e
        show tAtom G a σ H fun v H1 => tAtoms G as σ H1 fun vs H2 => Q (v :: vs) H2
        cases a with
        | c d' =>
          cases q1
          intro v hv
          refine ih q2 fun vs hr => h _ ?_
          simp only [RepBs]
          refine ⟨v, vs, rfl, ?_, hr⟩
          cases d <;> cases hv <;> simp only [RepB, Rep]
        | p j π =>
          simp only [Atom.rd] at q1
          cases q3 : slotAt ρ j π with
          | none => rw [q3] at q1; cases q1
          | some s =>
            rw [q3] at q1
            simp only [Option.bind_some] at q1
            obtain ⟨od, e1, e2⟩ := slotAt_some q3
            obtain ⟨v0, _, _, h1, _⟩ := S.sl.at (getKap (κ := κ) e1)
            obtain ⟨w, B, C, h2, h3, _⟩ := S.part (getKap (κ := κ) e1) e2 h1
            rw [getSig hl] at h1
            refine ⟨v0, w, h1, h2, ih q2 fun vs hr => h _ ?_⟩
            simp only [RepBs]
            exact ⟨w, vs, rfl, h3.sh S.le q1, hr⟩
theorem sx_atm {as : List Atom} {op : List D → Option OD} {r : List V → Hp → VK → Prop} {t : TE} (ht : PE X e t) (R : RN G r op) (h : ∀ σ H Q, tAtoms G as σ H (fun vs H1 => r vs H1 Q) → t σ H Q) : SX X G W true e (mAtm op as) := PE.of ht fun σ H Q z => h σ H Q (by
  obtain ⟨F, ρ, A, κ, ς, S, hl, z⟩ := z
  unfold mAtm at z
  cases e1 : rdAll ρ as with
  | none => rw [e1] at z; exact z.elim
  | some ds =>
    rw [e1] at z
    simp only [Option.bind_some] at z
    cases e2 : op ds with
    | none => rw [e2] at z; exact z.elim
    | some od =>
      rw [e2] at z
      refine atoms_run S hl e1 fun vs hr => R F H ds vs od Q S.le hr e2 fun F' H' u B n ho hB => ?_
      obtain ⟨A', S', hA'⟩ := (S.new n).push ho fun a ha => ⟨(hB a ha).2, fun z => by
        obtain ⟨o, q⟩ := S.sl.there a z
        rw [(hB a ha).1] at q; cases q⟩
      have g := n.go (p := true) (A := A)
      refine z F' H' u A' ⟨g.le, g.keep, fun a ha => ?_, g.nf⟩ S'
      rcases (hA' a).1 ha with z | z
      · exact .inr (hB a z).1
      · exact .inl z)
theorem at_p (h : PP X G e i π) : PE X e (tAtom G (.p i π)) := h
theorem at_c {d : D} {v : V} (h : PE X e (tC v)) (hd : flat1 d = some v := by rfl) : PE X e (tAtom G (.c d)) := PE.of h fun σ H Q z => z v hd
theorem pa_at0 : PA X [] (tAtoms G []) := pa_nil
theorem pa_at {es : List Expr} {a : Atom} {as : List Atom} (ha : PE X e (tAtom G a)) (hr : PA X es (tAtoms G as)) (hs : starEach (e :: es) X.env = (false, eval e X.env) :: starEach es X.env := by rfl) : PA X (e :: es) (tAtoms G (a :: as)) := pa_cons ha hr hs
theorem sx_binA {a : Expr} {ta tb : Atom} {op : Operator} {r : R2} {f : List D → Option OD} (ho : OpR X (binaryOp op) r) (R : RN G (RV2 r) f) (ha : PE X a (tAtom G ta)) (hb : PE X b (tAtom G tb)) : SX X G W true (.BinOp a op b pos) (mAtm f [ta, tb]) :=
  sx_atm (pe_op ho ha hb) R fun σ H Q z => z
theorem sx_cmpA {a : Expr} {ta tb : Atom} {op : CmpOp} {r : R2} {f : List D → Option OD} (ho : OpR X (compareOp op) r) (R : RN G (RV2 r) f) (hm : behindInMarks op b = false) (ha : PE X a (tAtom G ta)) (hb : PE X b (tAtom G tb)) : SX X G W true (.Compare a [op] [b] pos) (mAtm f [ta, tb]) :=
  sx_atm (pe_cmpR ho ha hb hm) R fun σ H Q z => z
theorem sx_ixA {a : Expr} {ta tb : Atom} {r : R2} {f : List D → Option OD} (hr : IxR X r) (R : RN G (RV2 r) f) (hs : PlainIx b) (ha : PE X a (tAtom G ta)) (hb : PE X b (tAtom G tb)) : SX X G W true (.Subscript a b pos) (mAtm f [ta, tb]) :=
  sx_atm (pe_ix hr ha hb hs) R fun σ H Q z => z
end
end Vs

/-! VsR: recursion's ground; rules in short, more. -/
namespace Vs
open PySem L2 PySem.Spec PyProof.Rows
section
variable {G : Gx} {W : WX} {X : Cx} {k : Nat} {x : Str} {ps : List Str}
theorem cal_zero {P : Program} {w : World} {base : Heap} {qual : Str} {params : Arguments} {body : List Stmt} {scope : Scope} {fa : Addr} {fd : FuncData} (Fn : FunD G.K x qual params body scope [] [] fa fd) (hx : G.mg x = some (.ref fa))
    (hbi : ∀ (kV doc pm : Value) (an : Option Addr) (cdv ct : Value) (us : List Value), us.length = ps.length → bindArgs (PySem.W.fnOf x qual params body scope .none kV doc pm an cdv ct) ⟨us, []⟩ = pure (ps.zip us)) : Cal P w G base k x ps (fun _ => .stuck) :=
  ⟨fa, fd, hx, Fn.kp, Fn.bindsN hbi, ⟨fun vs H Q E h => by obtain ⟨_, _, _, _, z⟩ := h; exact z.elim, fun _ _ _ _ _ _ _ _ _ _ _ _ _ h => by obtain ⟨_, _, _, _, z⟩ := h; exact z.elim⟩⟩
theorem pe_pop {o : Expr} {to : TE} {apos cpos : Pos} (ho : PE X o to) (hbase : attributeBase o "pop" X.env (eval o X.env) = eval o X.env := by rfl) (hline : (apos.endLine == cpos.line) = true := by rfl) : PE X (.Call (.Attribute o "pop" apos) [] [] cpos) (tBM0 X.K "list" rPop to) :=
  pe_bm0 PySem.F.plainAttrs_list PySem.F.slot_list_pop PySem.F.type_list_pop mt_pop ho hbase hline
end
end Vs

/-! VsS: is True, is False; raise; sorted; x += e; a, b = e. -/
namespace Vs
open PySem L2 PySem.Spec PyProof.Rows
/-! ### is True, is False -/
def opIsB (neg : Bool) : List D → Option OD
  | [.bl c, .bl b] => some (.v (.bl (neg ^^ decide (c = b))))
  | _ => none
section
variable {G : Gx} {W : WX} {X : Cx} {k : Nat} {bb : Bool} {pn : List Nat} {e a b c : Expr} {es : List Expr} {oa ob oc : Opd} {pos p q : Pos} {x : Str}
theorem op_isB : OpR X (compareOp .Is) (fun x y H Q => ∃ c b, x = .bl c ∧ y = .bl b ∧ Q (.bl (decide (c = b))) H) := by
  intro pins s σ H x y v u Q I rx ry h
  obtain ⟨c, b, rfl, rfl, h⟩ := h
  cases rx; cases ry
  refine wpAny_is_plain (by cases c <;> cases b <;> rfl) ⟨.bl (decide (c = b)), H, I, ?_, h⟩
  cases c <;> cases b <;> rfl
theorem op_isNotB : OpR X (compareOp .IsNot) (fun x y H Q => ∃ c b, x = .bl c ∧ y = .bl b ∧ Q (.bl (!decide (c = b))) H) := by
  intro pins s σ H x y v u Q I rx ry h
  obtain ⟨c, b, rfl, rfl, h⟩ := h
  cases rx; cases ry
  show wpAny _ _ ((isSame (.bool c) (.bool b)) >>= fun z => pure (Value.bool (!z))) _ _ s
  refine wpAny_bind (wpAny_isSame_plain (by cases c <;> cases b <;> rfl) (wpAny_pure ⟨.bl (!decide (c = b)), H, I, ?_, h⟩))
  cases c <;> cases b <;> rfl
theorem rn_isB : RN G (RV2 fun x y H Q => ∃ c b, x = .bl c ∧ y = .bl b ∧ Q (.bl (decide (c = b))) H) (opIsB false) := fun F H xs vs z Q le hr ez k => by
  unfold opIsB at ez
  split at ez
  · rename_i c b
    obtain ⟨v, w, rfl, h1, h2⟩ := hr.two
    cases ez
    refine ⟨c, b, repB_bl h1, repB_bl h2, k F H _ (fun _ => False) (.refl le) ?_ fun _ z => z.elim⟩
    simp only [OT, Rep, Bool.false_bne]
    exact ⟨trivial, fun _ z => z⟩
  · cases ez
theorem rn_isNotB : RN G (RV2 fun x y H Q => ∃ c b, x = .bl c ∧ y = .bl b ∧ Q (.bl (!decide (c = b))) H) (opIsB true) := fun F H xs vs z Q le hr ez k => by
  unfold opIsB at ez
  split at ez
  · rename_i c b
    obtain ⟨v, w, rfl, h1, h2⟩ := hr.two
    cases ez
    refine ⟨c, b, repB_bl h1, repB_bl h2, k F H _ (fun _ => False) (.refl le) ?_ fun _ z => z.elim⟩
    simp only [OT, Rep, Bool.true_bne]
    exact ⟨trivial, fun _ z => z⟩
  · cases ez
theorem e_isB (K : Ok X G W k bb) (ha : SO X G W a oa) (hb : SO X G W b ob) : SX X G W (pAll [oa, ob]) (.Compare a [.Is] [b] pos) (mApp (opIsB false) [oa, ob]) := sx_cmp op_isB rn_isB (nomark _) ha hb
theorem e_isNotB (K : Ok X G W k bb) (ha : SO X G W a oa) (hb : SO X G W b ob) : SX X G W (pAll [oa, ob]) (.Compare a [.IsNot] [b] pos) (mApp (opIsB true) [oa, ob]) := sx_cmp op_isNotB rn_isNotB (nomark _) ha hb
theorem t_isB (K : Ok X G W k bb) (ha : SO X G W a oa) (hb : SO X G W b ob) : SB X G W (pAll [oa, ob]) (.Compare a [.Is] [b] pos) (asB (mApp (opIsB false) [oa, ob])) := sb_cmp op_isB rn_isB (nomark _) ha hb
theorem t_isNotB (K : Ok X G W k bb) (ha : SO X G W a oa) (hb : SO X G W b ob) : SB X G W (pAll [oa, ob]) (.Compare a [.IsNot] [b] pos) (asB (mApp (opIsB true) [oa, ob])) := sb_cmp op_isNotB rn_isNotB (nomark _) ha hb
/-! ### raise C() -/
def zRaise0 (c : Str) : SM := fun ρ => .exc ⟨c, [], []⟩ ρ
theorem pmk_own0 {C : Addr} {bmB : List Value} {B newId initId : String} (F : ExcBaseFacts B newId initId bmB) (q : PySem.W.excIn X.K C bmB newId = true) (gC : X.mg x = some (.ref C))
    (kC : PySem.W.keepIn X.K (.ref C) = true) (r : Raises X (.ref C)) (hg : Gl X x) (hdb : (x == ("__debug__" : Str)) = false := by decide) :
    PMk X (.Call (.Name x p) [] [] pos) (fun _ H Q => Q (.ref C) none H) := by
  intro pins s σ H Q I h
  refine wpAny_Call_Name_kw (ld_glob I hg gC ?_ hdb)
  refine PySem.W.callWith_K0 I.kIn kC ?_
  show wpAny _ _ (call (.ref C) []) _ _ _
  obtain ⟨bm, N, nm, qn, bs, hdct, sn, sub, ab, col, dd, k0, k1, k2, k3, k5, mN, hC, hN, hni, T⟩ := exc_obj I.kIn q
  refine wpAny_call_exc_subT F T hC hN hni (fun h' e hm => ?_) (Nat.zero_le _)
  exact mk_of I hm r h (I.hok.gone hm.new)
theorem z_raise0 {C : Addr} {bmB : List Value} {B newId initId : String} {p2 : Pos} (F : ExcBaseFacts B newId initId bmB) (K : Ok X G W k true) (gC : G.mg x = some (.ref C)) (q : PySem.W.excIn X.K C bmB newId = true)
    (kC : PySem.W.keepIn X.K (.ref C) = true) (r : Raises X (.ref C)) (hg : Gl X x := by rfl) (hdb : (x == ("__debug__" : Str)) = false := by decide) : SS X G W pn (.Raise (some (.Call (.Name x p) [] [] pos)) none p2) (zRaise0 x) :=
  PS.of (ps_raise K.c K.t (pmk_own0 F q (K.m gC) kC r hg hdb)) fun D σ H h => by
    obtain ⟨F, ρ, A, S, h⟩ := h
    exact h F H σ A (.ref C) none .refl .refl S ⟨C, gC, rfl, .inl ⟨rfl, rfl, rfl⟩⟩
/-- a statement that is never met -/
def zNever : SM := fun _ => .stuck
theorem z_never {st : Stmt} : SS X G W pn st zNever := PS.of ps_never fun D σ H h => by
  obtain ⟨F, ρ, A, S, h⟩ := h
  exact h.elim
end
end Vs

/-! VsT: rules in short, for parts. -/
namespace Vs
open PySem L2 PySem.Spec PyProof.Rows
section
variable {G : Gx} {W : WX} {X : Cx} {k : Nat} {pn : List Nat} {e o : Expr} {pos p q : Pos} {i : Nat} {π : List PStep} {fv : M OD}
/-- -n, written -/
theorem pe_negc {n : Int} {j} : PE X (.UnaryOp .USub (.Constant (.int n) j pos) p) (tC (.int (-n))) := by
  refine ⟨fun pins s σ H Q I h => (pe_un un_neg (pe_int (X := X) (i := n) (j := j) (pos := pos))).run pins s σ H Q I ?_⟩
  exact ⟨n, rfl, h⟩
theorem ps_app {to : TE} {te : TE} {apos cpos : Pos} (ho : PE X o to) (he : PE X e te)
    (hbase : attributeBase o "append" X.env (eval o X.env) = eval o X.env := by rfl)
    (hfew : ((backTo cpos (starEach [e] X.env)).all (fun x => !x.1) && (backToKw cpos (keywordEach [] X.env)).all (fun x => x.1.isSome)
      && decide ([e].length + ([] : List Keyword).length + (if ([] : List Keyword).isEmpty then 0 else 1) < 30)) = true := by rfl)
    (hline : (apos.endLine == cpos.line) = true := by rfl) (hs : starEach [e] X.env = [(false, eval e X.env)] := by rfl) (hplain : (backTo cpos (starEach [] X.env)).any (·.1) = false := by rfl) (hw : swapsWith (.Call (.Attribute o "append" apos) [e] [] cpos) none pos.line X.env = pure false := by rfl) :
    PS X (.Expr (.Call (.Attribute o "append" apos) [e] [] cpos) pos) (tDrop (tBM X.K "list" rAppend to (tCons te tNil))) :=
  ps_expr (pe_bm PySem.F.plainAttrs_list PySem.F.slot_list_append PySem.F.type_list_append mt_append ho (pa_cons he pa_nil hs) hbase hfew hline hs hplain) hw
end
end Vs

/-! VsU: raise, try .. except. -/
namespace Vs
open PySem L2 PySem.Spec PyProof.Rows
/-! ### things without the exception that is held -/
mutual
def D.nx : D → Bool
  | .exn _ _ => false
  | .tup xs => D.nxs xs
  | .lst xs => D.nxs xs
  | .rol xs => D.nxs xs
  | .dk _ xs => D.nxs xs
  | .ins _ _ xs => D.nxs xs
  | .non => true
  | .bl _ => true
  | .int _ => true
  | .str _ => true
def D.nxs : List D → Bool
  | [] => true
  | x :: xs => x.nx && D.nxs xs
end
mutual
def OD.nx : OD → Bool
  | .v d => d.nx
  | .l xs => OD.nxs xs
  | .k _ xs => OD.nxs xs
  | .o _ _ xs => OD.nxs xs
def OD.nxs : List OD → Bool
  | [] => true
  | x :: xs => x.nx && OD.nxs xs
end
def nxE : Env → Bool
  | [] => true
  | none :: ρ => nxE ρ
  | some od :: ρ => od.nx && nxE ρ
section
variable {G G' : Gx} {F H : Hp}
mutual
theorem Rep.ea (hK : G.K = G'.K) (hM : G.mg = G'.mg) : ∀ {d : D} {v : V}, d.nx = true → Rep G F d v → Rep G' F d v
  | .non, _, _, h => by simpa only [Rep] using h
  | .bl _, _, _, h => by simpa only [Rep] using h
  | .int _, _, _, h => by simpa only [Rep] using h
  | .str _, _, _, h => by simpa only [Rep] using h
  | .tup ds, v, n, h => by
    simp only [D.nx] at n
    simp only [Rep] at h ⊢
    obtain ⟨a, vs, h1, h2, h3⟩ := h
    exact ⟨a, vs, h1, hK ▸ h2, Reps.ea hK hM n h3⟩
  | .lst ds, v, n, h => by
    simp only [D.nx] at n
    simp only [Rep] at h ⊢
    obtain ⟨a, vs, h1, h2, h3⟩ := h
    exact ⟨a, vs, h1, h2, Reps.ea hK hM n h3⟩
  | .rol ds, v, n, h => by
    simp only [D.nx] at n
    simp only [Rep] at h ⊢
    obtain ⟨a, vs, h1, h2, h3⟩ := h
    exact ⟨a, vs, h1, hK ▸ h2, Reps.ea hK hM n h3⟩
  | .dk ks ds, v, n, h => by
    simp only [D.nx] at n
    simp only [Rep] at h ⊢
    obtain ⟨a, vs, h1, h2, h4, h3⟩ := h
    exact ⟨a, vs, h1, h2, h4, Reps.ea hK hM n h3⟩
  | .ins c fs ds, v, n, h => by
    simp only [D.nx] at n
    simp only [Rep] at h ⊢
    obtain ⟨a, C, dx, fvs, h1, h2, h4, h5, h3⟩ := h
    exact ⟨a, C, dx, fvs, h1, hM ▸ h2, h4, h5, Reps.ea hK hM n h3⟩
  | .exn _ _, v, n, h => by simp [D.nx] at n
theorem Reps.ea (hK : G.K = G'.K) (hM : G.mg = G'.mg) : ∀ {ds : List D} {vs : List V}, D.nxs ds = true → Reps G F ds vs → Reps G' F ds vs
  | [], vs, _, h => by simpa only [Reps] using h
  | d :: ds, vs, n, h => by
    simp only [D.nxs, Bool.and_eq_true] at n
    simp only [Reps] at h ⊢
    obtain ⟨v, r, h1, h2, h3⟩ := h
    exact ⟨v, r, h1, Rep.ea hK hM n.1 h2, Reps.ea hK hM n.2 h3⟩
end
mutual
theorem OT.ea (hK : G.K = G'.K) (hM : G.mg = G'.mg) : ∀ {od : OD} {v : V} {A : AS}, od.nx = true → OT G F H od v A → OT G' F H od v A
  | .v d, v, A, n, h => by
    simp only [OD.nx] at n
    simp only [OT] at h ⊢
    exact ⟨h.1.ea hK hM n, h.2⟩
  | .l xs, v, A, n, h => by
    simp only [OD.nx] at n
    simp only [OT] at h ⊢
    obtain ⟨a, vs, A', h1, h2, h3, c⟩ := h
    exact ⟨a, vs, A', h1, h2, OTs.ea hK hM n h3, c⟩
  | .k ks xs, v, A, n, h => by
    simp only [OD.nx] at n
    simp only [OT] at h ⊢
    obtain ⟨a, kvs, A', h1, h2, hk, h3, c⟩ := h
    exact ⟨a, kvs, A', h1, h2, hk, OTs.ea hK hM n h3, c⟩
  | .o cn fs xs, v, A, n, h => by
    simp only [OD.nx] at n
    simp only [OT] at h ⊢
    obtain ⟨a, C, dx, fvs, A', h1, hm, h2, hk, h3, c⟩ := h
    exact ⟨a, C, dx, fvs, A', h1, hM ▸ hm, h2, hk, OTs.ea hK hM n h3, c⟩
theorem OTs.ea (hK : G.K = G'.K) (hM : G.mg = G'.mg) : ∀ {xs : List OD} {vs : List V} {A : AS}, OD.nxs xs = true → OTs G F H xs vs A → OTs G' F H xs vs A
  | [], vs, A, n, h => by simpa only [OTs] using h
  | x :: xs, vs, A, n, h => by
    simp only [OD.nxs, Bool.and_eq_true] at n
    simp only [OTs] at h ⊢
    obtain ⟨v, r, A1, A2, h1, h2, h3, c⟩ := h
    exact ⟨v, r, A1, A2, h1, OT.ea hK hM n.1 h2, OTs.ea hK hM n.2 h3, c⟩
end
theorem Sl.ea (hK : G.K = G'.K) (hM : G.mg = G'.mg) : ∀ {ρ : Env} {σ : L2.St} {A : AS}, nxE ρ = true → Sl G F H ρ σ A → Sl G' F H ρ σ A
  | [], σ, A, n, h => by simpa only [Sl] using h
  | none :: ρ, σ, A, n, h => by
    simp only [nxE] at n
    simp only [Sl] at h ⊢
    obtain ⟨x, r, e, h⟩ := h
    exact ⟨x, r, e, Sl.ea hK hM n h⟩
  | some od :: ρ, σ, A, n, h => by
    simp only [nxE, Bool.and_eq_true] at n
    simp only [Sl] at h ⊢
    obtain ⟨v, r, A1, A2, e, h1, h2, c⟩ := h
    exact ⟨v, r, A1, A2, e, OT.ea hK hM n.1 h1, Sl.ea hK hM n.2 h2, c⟩
theorem Stt.ea (hK : G.K = G'.K) (hM : G.mg = G'.mg) {ρ : Env} {σ : L2.St} {A : AS} (n : nxE ρ = true) (S : Stt G F H ρ σ A) : Stt G' F H ρ σ A := ⟨S.le, S.sl.ea hK hM n, S.fr⟩
end
/-! ### raise -/
section
variable {G : Gx} {W : WX} {X : Cx} {k : Nat} {pn : List Nat} {x : Str} {pos p p2 : Pos} {C : Addr}
theorem Ok.raise0 (K : Ok X G W k true) (E : Exn G x C) (hg : Gl X x := by rfl) (hdb : (x == ("__debug__" : Str)) = false := by decide) : SS X G W pn (.Raise (some (.Call (.Name x p) [] [] pos)) none p2) (zRaise0 x) := by
  have hK := K.gK
  exact z_raise0 PySem.F.excBase_ValueError K E.m (by rw [← hK]; exact E.q) (by rw [← hK]; exact E.k) (raises_own (by rw [← hK]; exact E.s) (by rw [← hK]; exact E.t)) hg hdb
end
/-! ### try: .. except C as e: .. -/
def nxF : Fl → Bool
  | .rt od => od.nx
  | _ => true
def zTryAs (sub : Str → Option Bool) (i : Nat) (body : SM) (suite : XV → SM) : SM := fun ρ => match body ρ with
  | .exc x ρ1 => match sub x.cls with
    | some true => if nxE ρ1 = true ∧ i < ρ1.length ∧ D.nxs x.vs = true then match suite x (ρ1.set i (some (.v (.exn x.fs x.vs)))) with
      | .ok fl ρ2 => if nxE (ρ2.set i none) = true ∧ nxF fl = true then .ok fl (ρ2.set i none) else .stuck
      | _ => .stuck else .stuck
    | some false => .exc x ρ1
    | none => .stuck
  | o => o
def zTry (sub : Str → Option Bool) (body : SM) (suite : XV → SM) : SM := fun ρ => match body ρ with
  | .exc x ρ1 => match sub x.cls with
    | some true => if nxE ρ1 = true then match suite x ρ1 with
      | .ok fl ρ2 => .ok fl ρ2
      | _ => .stuck else .stuck
    | some false => .exc x ρ1
    | none => .stuck
  | o => o
section
variable {G : Gx} {F H : Hp} {A : AS} {ρ : Vs.Env} {σ : L2.St}
theorem Stt.wipe1 {i : Nat} (S : Stt G F H ρ σ A) : ∃ A', Stt G F H (ρ.set i none) (σ.set i none) A' ∧ ∀ a, A' a → A a := by
  obtain ⟨A', h, sub⟩ := S.sl.drop (i := i)
  refine ⟨A', ⟨S.le, ?_, fun a z => S.fr a (sub a z)⟩, sub⟩
  by_cases hi : i < ρ.length
  · exact h.free (List.getElem?_set_self hi)
  · have : σ.set i none = σ := List.set_eq_of_length_le (by rw [S.sl.len]; omega)
    rw [this]
    exact h
theorem Stt.wipe1t {i : Nat} {od : OD} {v : V} (S : Stt G F H (some od :: ρ) (some v :: σ) A) : ∃ A', Stt G F H (some od :: ρ.set i none) (some v :: σ.set i none) A' ∧ ∀ a, A' a → A a := by
  obtain ⟨A', h, sub⟩ := Stt.wipe1 (i := i + 1) S
  exact ⟨A', h, sub⟩
variable {W : WX} {X : Cx} {k : Nat} {pn : List Nat} {x n : Str} {np pos pos' : Pos} {C : Addr} {i : Nat} {body suite : List Stmt} {b₀ : Stmt} {m : SM} {sm : XV → SM} {sub : Str → Option Bool}
theorem z_tryAs (K : Ok X G W k true) (hs : X.stack = X.env :: X.outer) (hf : X.env.frame = some X.env.locals) (hi : X.N[i]? = some n) (hln : X.env.kindOf n = some .local) (hip : i ∉ pn) (hc : Names X x (.ref C))
    (hsub : ∀ y b C', sub y = some b → G.mg y = some (.ref C') → PySem.W.exmOne X.K (.ref C') (.ref C) = some b)
    (hb : ∀ (W' : WX) (pn' : List (Addr × Obj)) (xe : Value → Shared → Prop), Takes (X.tr pn' xe) W' → PassesOwn (model X.prog X.w) X.A X.env xe → SSs (X.tr pn' xe) G W' pn body m)
    (hsu : ∀ (z : XV) (a : Addr) (oe : Obj) (C' : Addr) (d : Option Addr) (pn' : List (Addr × Obj)), sub z.cls = some true → G.mg z.cls = some (.ref C') → Zc (.ref C') d oe → (∃ vs, oe.data = .fields vs) →
      SSs (X.suite a ((a, oe) :: pn')) ⟨G.K, G.mg, a, d⟩ W0 pn (b₀ :: suite) (sm z)) :
    SS X G W pn (.Try body [.ExceptHandler (some (.Name x np)) (some n) (b₀ :: suite) pos'] [] [] pos) (zTryAs sub i m sm) := by
  refine PS.of (ps_try_as (tb := fun W' => TZ G W' pn m) (ts := fun a cls d D σ H => ∃ z C', sub z.cls = some true ∧ cls = .ref C' ∧ G.mg z.cls = some (.ref C') ∧ TZ ⟨G.K, G.mg, a, d⟩ W0 pn (sm z) D σ H) hs hf K.n hi hln hc K.t hb fun a oe cls d pn' hz hv => ⟨fun pins s σ H Q I h => ?_⟩) fun D σ H h => ?_
  · obtain ⟨z, C', h1, rfl, h2, h⟩ := h
    exact (hsu z a oe C' d pn' h1 h2 hz hv).run pins s σ H Q I h
  · obtain ⟨F, ρ, A, S, h⟩ := h
    refine ⟨F, ρ, A, S, ?_⟩
    unfold zTryAs at h
    cases e1 : m ρ with
    | stuck => rw [e1] at h; exact h
    | ok fl ρ1 => rw [e1] at h; exact h
    | exc z ρ1 =>
      rw [e1] at h
      intro F1 H1 σ1 A1 cls d g p S1 xr
      obtain ⟨C', hm, hcl, hx⟩ := xr
      subst hcl
      dsimp only at h
      cases e2 : sub z.cls with
      | none => rw [e2] at h; exact h.elim
      | some b =>
        rw [e2] at h
        refine ⟨b, hsub _ _ _ e2 hm, fun hbt a ha => ?_, fun hbf => ?_⟩
        · subst hbt
          dsimp only at h
          split at h
          · rename_i hn
            have Sa : Stt ⟨G.K, G.mg, a, d⟩ F1 H1 ρ1 σ1 A1 := Stt.ea (G := G) (G' := ⟨G.K, G.mg, a, d⟩) rfl rfl hn.1 S1
            have hr : Rep ⟨G.K, G.mg, a, d⟩ F1 (.exn z.fs z.vs) (.ref a) := by
              simp only [Rep]
              rcases hx with ⟨rfl, h1, h2⟩ | ⟨dd, fvs, rfl, hne, h1, h2, h3⟩
              · exact ⟨trivial, .inl ⟨rfl, h1, h2⟩⟩
              · exact ⟨trivial, .inr ⟨dd, fvs, rfl, hne, h1, h2, Reps.ea (G := G) (G' := ⟨G.K, G.mg, a, some dd⟩) rfl rfl hn.2.2 h3⟩⟩
            obtain ⟨A2, S2, sub2⟩ := Sa.setv hr hn.2.1
            refine ⟨z, C', e2, rfl, hm, F1, _, A2, S2, ?_⟩
            cases e3 : sm z (ρ1.set i (some (.v (.exn z.fs z.vs)))) with
            | stuck => rw [e3] at h; exact h.elim
            | exc _ _ => rw [e3] at h; exact h.elim
            | ok fl ρ3 =>
              rw [e3] at h
              dsimp only at h
              split at h
              · rename_i hn3
                intro F3 H3 σ3 A3 g3 p3
                have gg : ∀ {A4 : AS}, (∀ a, A4 a → A3 a) → Go false F H A F3 H3 A4 := fun s4 => ((g.less sub2).trans g3).less s4
                have pp : Pin pn σ (σ3.set i none) := ((p.trans (.set hip)).trans p3).trans (.set hip)
                cases fl with
                | nx =>
                  intro S3
                  obtain ⟨A4, S4, s4⟩ := S3.wipe1 (i := i)
                  exact h F3 H3 _ A4 (gg s4) pp (Stt.ea (G := ⟨G.K, G.mg, a, d⟩) (G' := G) rfl rfl hn3.1 S4)
                | bk =>
                  intro S3
                  obtain ⟨A4, S4, s4⟩ := S3.wipe1 (i := i)
                  exact h F3 H3 _ A4 (gg s4) pp (Stt.ea (G := ⟨G.K, G.mg, a, d⟩) (G' := G) rfl rfl hn3.1 S4)
                | ct =>
                  intro S3
                  obtain ⟨A4, S4, s4⟩ := S3.wipe1 (i := i)
                  exact h F3 H3 _ A4 (gg s4) pp (Stt.ea (G := ⟨G.K, G.mg, a, d⟩) (G' := G) rfl rfl hn3.1 S4)
                | rt od =>
                  intro v S3
                  obtain ⟨A4, S4, s4⟩ := S3.wipe1t (i := i)
                  exact h F3 H3 _ A4 (gg s4) pp v (Stt.ea (G := ⟨G.K, G.mg, a, d⟩) (G' := G) rfl rfl (by simp only [nxE, Bool.and_eq_true]; exact ⟨hn3.2, hn3.1⟩) S4)
              · exact h.elim
          · exact h.elim
        · subst hbf
          exact h F1 H1 σ1 A1 _ d g p S1 ⟨C', hm, rfl, hx⟩
end
end Vs

/-! VsV: inside try and except. -/
namespace Vs
open PySem L2 PySem.Spec PyProof.Rows
section
variable {G : Gx} {W W' : WX} {X : Cx} {k : Nat} {bb : Bool} {a : Addr} {d : Option Addr}
theorem Ok.tr (K : Ok X G W k bb) {pn' : List (Addr × Obj)} {xe : Value → Shared → Prop} (t : Takes (X.tr pn' xe) W') : Ok (X.tr pn' xe) G W' k bb := ⟨K.gK, K.gm, K.u64, t, K.n, K.rr, K.cc⟩
theorem Ok.su (K : Ok X G W k bb) {pn' : List (Addr × Obj)} : Ok (X.suite a pn') ⟨G.K, G.mg, a, d⟩ W0 k false := ⟨K.gK, K.gm, K.u64, takes0, K.n, (fun z => nomatch z), (fun z => nomatch z)⟩
/-- isinstance(e, C), e what the suite holds -/
def mIsE (i : Nat) (r : Option Bool) : M OD := fun ρ => match ρ[i]?, r with
  | some (some (.v (.exn [] _))), some b => .ok (.v (.bl b)) ρ
  | _, _ => .stuck
theorem e_isE {e : Expr} {i : Nat} {y : Str} {D C : Addr} {oe : Obj} {pn' : List (Addr × Obj)} {r : Option Bool} {p q pos : Pos} (K : Ok X G W k bb) (E : ExcC G.K D) (hz : Zc (.ref D) d oe) (hv : ∃ vs, oe.data = .fields vs) (hm : G.mg "isinstance" = none) (hC : G.mg y = some (.ref C))
    (hr : ∀ b, r = some b → PySem.W.kitOne G.K (.ref D) (.ref C) = some b) (he : PE (X.suite a ((a, oe) :: pn')) e (tVar i)) (hg : Gl X "isinstance" := by rfl) (hgy : Gl X y := by rfl) (hdy : (y == ("__debug__" : Str)) = false := by decide)
    (hs : starEach [e, .Name y q] X.env = (false, eval e X.env) :: starEach [.Name y q] X.env := by rfl) (hs2 : starEach [.Name y q] X.env = [(false, eval (.Name y q) X.env)] := by rfl) (hpl : (backTo pos (starEach [.Name y q] X.env)).any (·.1) = false := by rfl) :
    SX (X.suite a ((a, oe) :: pn')) ⟨G.K, G.mg, a, d⟩ W0 true (.Call (.Name "isinstance" p) [e, .Name y q] [] pos) (mIsE i r) := by
  have hK := K.gK
  by_cases hd : d = none
  rotate_left
  · refine ⟨fun pins s σ H Q I z => ?_⟩
    obtain ⟨F, ρ, A, κ, ς, S, hl, z⟩ := z
    unfold mIsE at z
    split at z
    · rename_i ds b e1
      obtain ⟨v, A1, A2, h1, h2, h3, c⟩ := S.sl.at (getKap (κ := κ) e1)
      simp only [OT, Rep] at h2
      obtain ⟨⟨_, ⟨h4, _⟩ | ⟨_, _, _, h4, _⟩⟩, _⟩ := h2
      · exact absurd h4 hd
      · exact absurd rfl h4
    · exact z.elim
  subst hd
  refine PE.of (pe_callB (call_isE (X := X) (a := a) (D := D) (oe := oe) (pn := pn') (by rw [← hK]; exact E) hz hv) hg (K.m hm) rfl (pa_cons he (pa_cons (pe_glob (v := .ref C) hgy (K.m hC) rfl hdy) pa_nil hs2) hs) (by decide) (by decide) hs hpl) fun σ H Q z => ?_
  obtain ⟨F, ρ, A, κ, ς, S, hl, z⟩ := z
  unfold mIsE at z
  split at z
  · rename_i ds b e1
    obtain ⟨v, A1, A2, h1, h2, h3, c⟩ := S.sl.at (getKap (κ := κ) e1)
    rw [getSig hl] at h1
    simp only [OT, Rep] at h2
    obtain ⟨⟨hva, _⟩, _⟩ := h2
    subst hva
    refine ⟨_, h1, .ref C, .ref C, b, rfl, fun u r => r, ?_, z F H (.bl b) A .refl (S.push_v (by simp only [Rep]))⟩
    show PySem.W.kitOne X.K _ _ = _
    rw [← hK]
    exact hr b rfl
  · exact z.elim
end
/-! ### {} -/
def mDict0 : M OD := fun ρ => .ok (.k [] []) ρ
theorem mDict0_e {ρ : Vs.Env} : mDict0 ρ = .ok (.k [] []) ρ := nr rfl
theorem sx_dict0 {G : Gx} {W : WX} {X : Cx} {pos : Pos} : SX X G W true (.Dict [] [] pos) mDict0 := PE.of pe_dnewK fun σ H Q z => by
  obtain ⟨F, ρ, A, κ, ς, S, hl, z⟩ := z
  intro p hp
  have hF : F p = none := by
    cases q : F p with
    | none => rfl
    | some u => rw [S.le p u q] at hp; cases hp
  have n : New F H F (upd H p (.dK [])) := .own S.le hp
  obtain ⟨A', S', hA'⟩ := (S.new n).push (od := .k [] []) (v := .ref p) (B := fun b => b = p) (by
    simp only [OT]
    exact ⟨p, [], fun _ => False, rfl, upd_same, rfl, by simp only [OTs, List.map_nil]; exact ⟨trivial, fun _ z => z⟩, .nil_r fun _ z => z⟩) fun b hb => by
      subst hb
      exact ⟨hF, fun z => by obtain ⟨o, q⟩ := S.sl.there _ z; rw [hp] at q; cases q⟩
  have g := n.go (p := true) (A := A)
  refine z F _ (.ref p) A' ⟨g.le, g.keep, fun b hb => ?_, g.nf⟩ S'
  rcases (hA' b).1 hb with y | y
  · subst y; exact .inr hp
  · exact .inl y
end Vs

/-! VsW: sorted. -/
namespace Vs
open PySem L2 PySem.Spec PyProof.Rows PySem.W
section
variable {X : Cx} {G : Gx}
theorem each_rel : ∀ {bs : List (V × PyData)} {us : List Value}, Vals (bs.map (·.1)) us → EachIs (fun v b => RelV b.1 v) us bs
  | [], us, h => by cases h; exact .nil
  | b :: bs, us, h => by
    cases h with
    | cons h1 h2 => exact .cons h1 (each_rel h2)
theorem each_vals : ∀ {bs : List (V × PyData)} {us : List Value}, EachIs (fun v b => RelV b.1 v) us bs → Vals (bs.map (·.1)) us
  | [], us, h => by cases h; exact .nil
  | b :: bs, us, h => by
    cases h with
    | cons h1 h2 => exact .cons h1 (each_vals h2)
theorem each_reads {pins : List (Addr × Obj)} {σ : L2.St} {H : Hp} {s : Shared} (I : Inv X pins σ H s) : ∀ {bs : List (V × PyData)} {us : List Value}, Vals (bs.map (·.1)) us → (∀ b ∈ bs, Dp X.K H b.1 b.2) → EachIs (fun v b => ∃ as, Reads s.heap v b.2 as) us bs
  | [], us, h, _ => by cases h; exact .nil
  | b :: bs, us, h, hd => by
    cases h with
    | cons h1 h2 => exact .cons (Dp.reads I b.2 b.1 _ (hd b List.mem_cons_self) h1) (each_reads I h2 fun c hc => hd c (List.mem_cons_of_mem _ hc))
def rSortV (K : PySem.W.Frag) : List V → Hp → VK → Prop := fun xs H Q => ∃ (a : Addr) (bs : List (V × PyData)), xs = [.ref a] ∧ SqL K H a (bs.map (·.1)) ∧ (∀ b ∈ bs, Dp K H b.1 b.2) ∧ AllAlike (bs.map (·.2)) ∧ Sortable (bs.map (·.2)) ∧ bs.length ≤ sizeLine ∧ (∀ b ∈ bs, b.2.depth ≤ 60) ∧
  ∀ p, H p = none → Q (.ref p) (upd H p (.lst ((bs.mergeSort (dataLe false (·.2))).map (·.1))))
theorem cr_sortV (hu : X.A.units + 64 < cLine) : CallR X (.builtin "sorted") (rSortV X.K) := by
  intro pins s σ H vs us Q I r h
  obtain ⟨a, bs, rfl, hs, hd, hal, hk, hL, hdep, q⟩ := h
  obtain ⟨its, rv, hl, _⟩ := I.list hs
  rw [Vals.ref1 r]
  refine sorted_data (R := fun v b => RelV b.1 v) (enc := (·.2)) hl.isList (each_rel rv) (each_reads I rv hd) hal hk hL (fun b hb => by have := hdep b hb; omega) fun out ho he => ?_
  obtain ⟨ep, he'⟩ := PyProof.Rows.sortedAll_at s.heap its out.toArray
  have hlen : ((bs.mergeSort (dataLe false (·.2))).map (·.1)).length ≤ sizeLine := by rw [List.length_map, List.length_mergeSort]; exact hL
  exact ⟨.ref _, upd H (s.heap.objs.size + 1) (.lst ((bs.mergeSort (dataLe false (·.2))).map (·.1))), I.laid (t' := s.toks) (fun _ _ => PyProof.Rows.sortedAll_old) (Nat.le_succ _) ⟨hlen, out, ep, each_vals he, by simpa using he'⟩, rfl, q _ (I.hok.fresh (Nat.le_succ _))⟩
def okSort (ps : List PyData) : Bool := (ps.all fun p => ps.all fun q => alike p q) && (((ps.all fun p => match p with | .tuple (_ :: _) => true | _ => false) || (ps.all fun p => match p with | .none => false | .tuple _ => false | _ => true)) && ps.all fun p => decide (p.depth ≤ 60))
theorem okSort_ok {ps : List PyData} (h : okSort ps = true) : AllAlike ps ∧ Sortable ps ∧ ∀ p ∈ ps, p.depth ≤ 60 := by
  unfold okSort at h
  simp only [Bool.and_eq_true, Bool.or_eq_true, List.all_eq_true, decide_eq_true_eq] at h
  obtain ⟨h1, h2, h3⟩ := h
  refine ⟨fun d hd d' hd' => h1 d hd d' hd', ?_, h3⟩
  rcases h2 with h2 | h2
  · refine .inl fun d hd => ?_
    have := h2 d hd
    split at this
    · exact ⟨_, _, rfl⟩
    · cases this
  · refine .inr fun d hd => ?_
    have := h2 d hd
    split at this
    · cases this
    · cases this
    · rename_i h4 h5
      exact ⟨h4, fun xs e => h5 xs e⟩
def sortD (ds : List D) (ps : List PyData) : List D := ((ds.zip ps).mergeSort (dataLe false (·.2))).map (·.1)
def opSorted : List D → Option OD
  | [d] => (lstD d).bind fun ds => (toPys ds).bind fun ps => if okSort ps = true ∧ ds.length ≤ sizeLine then some (.l ((sortD ds ps).map .v)) else none
  | _ => none
theorem toPys_len : ∀ {ds : List D} {ps : List PyData}, toPys ds = some ps → ps.length = ds.length
  | [], ps, h => by simp only [toPys] at h; cases h; rfl
  | d :: ds, ps, h => by
    simp only [toPys] at h
    cases q1 : toPy d with
    | none => rw [q1] at h; cases h
    | some p =>
      rw [q1] at h
      simp only [Option.bind_some] at h
      cases q2 : toPys ds with
      | none => rw [q2] at h; cases h
      | some qs => rw [q2] at h; cases h; simp [toPys_len q2]
theorem dpAll_mem {K : PySem.W.Frag} {H : Hp} : ∀ {vs : List V} {ps : List PyData}, DpAll K H vs ps → ∀ b ∈ vs.zip ps, Dp K H b.1 b.2
  | _, _, .nil, b, hb => by simp at hb
  | _, _, .cons h1 h2, b, hb => by
    simp only [List.zip_cons_cons, List.mem_cons] at hb
    rcases hb with rfl | hb
    · exact h1
    · exact dpAll_mem h2 b hb
theorem reps_zip {F : Hp} : ∀ {ds : List D} {vs : List V} {ps : List PyData}, Reps G F ds vs → ∀ t ∈ ds.zip (vs.zip ps), Rep G F t.1 t.2.1
  | [], vs, ps, h, t, ht => by simp at ht
  | d :: ds, vs, ps, h, t, ht => by
    simp only [Reps] at h
    obtain ⟨v, r, rfl, h1, h2⟩ := h
    cases ps with
    | nil => simp at ht
    | cons p ps =>
      simp only [List.zip_cons_cons, List.mem_cons] at ht
      rcases ht with rfl | ht
      · exact h1
      · exact reps_zip h2 t ht
theorem zip_dp : ∀ {ds : List D} {vs : List V} {ps : List PyData}, vs.length = ds.length → (ds.zip (vs.zip ps)).map (fun t => (t.1, t.2.2)) = ds.zip ps
  | [], vs, ps, h => by simp
  | d :: ds, [], ps, h => by simp at h
  | d :: ds, v :: vs, [], h => by simp
  | d :: ds, v :: vs, p :: ps, h => by simp [zip_dp (ds := ds) (vs := vs) (ps := ps) (by simpa using h)]
theorem zip_vp : ∀ {ds : List D} {vs : List V} {ps : List PyData}, vs.length = ds.length → (ds.zip (vs.zip ps)).map (fun t => t.2) = vs.zip ps
  | [], [], ps, h => by simp
  | [], v :: vs, ps, h => by simp at h
  | d :: ds, [], ps, h => by simp at h
  | d :: ds, v :: vs, [], h => by simp
  | d :: ds, v :: vs, p :: ps, h => by simp [zip_vp (ds := ds) (vs := vs) (ps := ps) (by simpa using h)]
theorem reps_sorted {F : Hp} {ds : List D} {vs : List V} {ps : List PyData} (h : Reps G F ds vs) : Reps G F (sortD ds ps) (((vs.zip ps).mergeSort (dataLe false (·.2))).map (·.1)) := by
  have e1 : ((ds.zip (vs.zip ps)).mergeSort (dataLe false (·.2.2))).map (fun t => (t.1, t.2.2)) = (ds.zip ps).mergeSort (dataLe false (·.2)) := by
    have e := List.map_mergeSort (f := fun t : D × (V × PyData) => (t.1, t.2.2)) (l := ds.zip (vs.zip ps)) (r := dataLe false (·.2.2)) (s := dataLe false (·.2)) fun _ _ _ _ => rfl
    rw [zip_dp h.len] at e
    exact e
  have e2 : ((ds.zip (vs.zip ps)).mergeSort (dataLe false (·.2.2))).map (fun t => t.2) = (vs.zip ps).mergeSort (dataLe false (·.2)) := by
    have e := List.map_mergeSort (f := fun t : D × (V × PyData) => t.2) (l := ds.zip (vs.zip ps)) (r := dataLe false (·.2.2)) (s := dataLe false (·.2)) fun _ _ _ _ => rfl
    rw [zip_vp h.len] at e
    exact e
  unfold sortD
  rw [← e1, ← e2, List.map_map, List.map_map]
  exact Reps.map fun t ht => reps_zip h t (List.mem_mergeSort.mp ht)
theorem rn_sorted (hG : G.K = X.K) : RN G (rSortV X.K) opSorted := fun F H xs vs z Q le hr ez k => by
  unfold opSorted at ez
  split at ez
  · rename_i d
    obtain ⟨v, rfl, h⟩ := hr.one
    cases e1 : lstD d with
    | none => rw [e1] at ez; cases ez
    | some ds =>
      rw [e1] at ez
      simp only [Option.bind_some] at ez
      cases e2 : toPys ds with
      | none => rw [e2] at ez; cases ez
      | some ps =>
        rw [e2] at ez
        simp only [Option.bind_some] at ez
        split at ez
        · rename_i hc
          cases ez
          obtain ⟨a, us, rfl, h1, h2⟩ := h.lstD le e1
          have hdp := h2.dp le e2
          rw [hG] at h1 hdp
          have hlp : ps.length = us.length := by rw [toPys_len e2, h2.len]
          have m1 : (us.zip ps).map (·.1) = us := List.map_fst_zip (by omega)
          have m2 : (us.zip ps).map (·.2) = ps := List.map_snd_zip (by omega)
          obtain ⟨o1, o2, o3⟩ := okSort_ok hc.1
          refine ⟨a, us.zip ps, rfl, by rw [m1]; exact h1, dpAll_mem hdp, by rw [m2]; exact o1, by rw [m2]; exact o2, by rw [List.length_zip, hlp, h2.len]; simpa using hc.2, fun b hb => o3 b.2 (by rw [← m2]; exact List.mem_map_of_mem hb), fun p hp => ?_⟩
          have hF : F p = none := by
            cases q : F p with
            | none => rfl
            | some u => rw [le p u q] at hp; cases hp
          refine k F _ (.ref p) (fun b => b = p) (.own le hp) (ot_lv (reps_sorted h2) upd_same) fun b hb => ?_
          subst hb
          exact ⟨hp, hF⟩
        · cases ez
  · cases ez
end
end Vs

/-! VsX: sorted(d.items()). -/
namespace Vs
open PySem L2 PySem.Spec PyProof.Rows PySem.W
mutual
theorem reads_lt {h : Heap} : ∀ (d : PyData) (v : Value) (as : List Addr), alike d d = true → Reads h v d as → ∀ a ∈ as, a < h.objs.size
  | .none, _, _, _, r, a, ha => by cases r; cases ha
  | .bool _, _, _, _, r, a, ha => by cases r; cases ha
  | .int _, _, _, _, r, a, ha => by cases r; cases ha
  | .str _, _, _, _, r, a, ha => by cases r; cases ha
  | .list xs, _, _, hal, r, a, ha => by
    cases r with
    | list h1 h2 h3 h4 =>
      rcases List.mem_cons.mp ha with rfl | ha
      · exact Heap.lt_size h1
      · exact readsAll_lt xs _ _ (by simpa [alike] using hal) h4 a ha
  | .tuple xs, _, _, hal, r, a, ha => by
    cases r with
    | tuple h1 h2 h3 h4 => exact readsAll_lt xs _ _ (by simpa [alike] using hal) h4 a ha
  | .dict _, _, _, hal, _, _, _ => absurd hal (by simp [alike])
theorem readsAll_lt {h : Heap} : ∀ (ds : List PyData) (vs : List Value) (as : List Addr), alikeAll ds ds = true → ReadsAll h vs ds as → ∀ a ∈ as, a < h.objs.size
  | [], _, _, _, r, a, ha => by cases r; cases ha
  | d :: ds, _, _, hal, r, a, ha => by
    cases r with
    | cons h1 h2 =>
      rcases List.mem_append.mp ha with ha | ha
      · exact reads_lt d _ _ (alike_all_cons hal).1 h1 a ha
      · exact readsAll_lt ds _ _ (alike_all_cons hal).2 h2 a ha
end
def kPy : L2.Key → PyData
  | .inl i => .int i
  | .inr s => .str s
theorem kPy_reads {h : Heap} {k : L2.Key} {v : Value} (e : keyIs k v = true) : Reads h v (kPy k) [] := by
  rcases keyIs_shape e with ⟨i, t, rfl, rfl⟩ | ⟨x, t, rfl, rfl⟩
  · exact .int _ _
  · exact .str _ _
abbrev KVP := (L2.Key × V) × PyData
def pairPy (t : KVP) : PyData := .tuple [kPy t.1.1, t.2]
section
variable {X : Cx}
def rItemsK : V → List V → Hp → VK → Prop := fun x xs H Q => ∃ (a : Addr) (kvs : List (L2.Key × V)), x = .ref a ∧ xs = [] ∧ Rd H a (.dK kvs) ∧ ∀ p, H p = none → Q (.ref p) (upd H p (DX.itemsO p a))
theorem mt_itemsK : MtR X "dict.items" rItemsK := by
  intro pins s σ H x xs v us Q I rx rxs h
  obtain ⟨a, kvs, rfl, rfl, ha, q⟩ := h
  cases rx
  cases rxs
  obtain ⟨hz, hs0, vs, kv, hdo⟩ := ha.ok I.hok
  obtain ⟨ep, o, es, ho, hx, hdat, _⟩ := hdo.dictAt
  refine DT.callItems (es := es) (ep := ep) hs0 ⟨o, ho, hx, hdat⟩ ?_
  have hf : H s.heap.objs.size = none := I.hok.fresh (Nat.le_refl _)
  exact ⟨.ref s.heap.objs.size, upd H s.heap.objs.size (DX.itemsO s.heap.objs.size a), I.laid (t' := s.toks) (fun b u e => Heap.get?_push_of_some _ e) (Nat.le_refl _) (DX.itemsO_ok (Heap.get?_push_size _ rfl)), rfl, q _ hf⟩
def rSortIt (K : PySem.W.Frag) : List V → Hp → VK → Prop := fun xs H Q => ∃ (p a : Addr) (kps : List KVP), xs = [.ref p] ∧ H p = some (DX.itemsO p a) ∧ Rd H a (.dK (kps.map (·.1))) ∧
  (∀ t ∈ kps, Dp K H t.1.2 t.2) ∧ AllAlike (kps.map pairPy) ∧ (∀ t ∈ kps, (pairPy t).depth ≤ 60) ∧
  ∀ (H' : Hp) (l : Addr) (ts : List (Addr × KVP)), (∀ b o, H b = some o → H' b = some o) → H l = none → l ∉ ts.map (·.1) → ts.map (·.2) = kps.mergeSort (dataLe false pairPy) → H' l = some (.lst (ts.map fun t => .ref t.1)) →
    (∀ t ∈ ts, H t.1 = none ∧ H' t.1 = some (.tup [kV t.2.1.1, t.2.1.2])) → Q (.ref l) H'
theorem each_map2 {α β γ : Type} {R : β → γ → Prop} (f : α → β) (g : α → γ) : ∀ (l : List α), (∀ x ∈ l, R (f x) (g x)) → EachIs R (l.map f) (l.map g)
  | [], _ => .nil
  | x :: l, h => .cons (h x List.mem_cons_self) (each_map2 f g l fun y hy => h y (List.mem_cons_of_mem _ hy))
theorem each_id {α β : Type} {R : β → α → Prop} (f : α → β) (l : List α) (h : ∀ x ∈ l, R (f x) x) : EachIs R (l.map f) l := by
  have := each_map2 (R := R) f id l h
  rwa [List.map_id] at this
theorem each_eq {α β : Type} (f : α → β) : ∀ {out : List β} {l : List α}, EachIs (fun v b => v = f b) out l → out = l.map f
  | _, _, .nil => rfl
  | _, _, .cons h t => by rw [h, each_eq f t]; rfl
theorem cr_sortIt (hc : X.calm = true) (hu : X.A.units + 64 < cLine) : CallR X (.builtin "sorted") (rSortIt X.K) := by
  intro pins s σ H xs us Q I r h
  obtain ⟨p, a, kps, rfl, hp, ha, hd, hal, hdep, q⟩ := h
  obtain rfl := Vals.ref1 r
  have view : s.heap.IsItemsView p a := (show ObjOk X.prog X.w H s.heap p (DX.itemsO p a) from I.hok p _ hp).1
  obtain ⟨hz, hs0, vs, kv, hdo⟩ := ha.ok I.hok
  obtain ⟨ep, o, es, ho, hx, hdat, hes, hpr, hnd⟩ := hdo.dictAt
  have l1 : (kps.map (·.1)).length = vs.length := Paired.length kv
  rw [List.length_map] at l1 hz
  have l2 : es.size = vs.length := by rw [← Array.length_toList]; exact hpr.length
  have hh : X.A.handled = none := I.ok.hd hc
  refine DT.sortedI (es := es) (ep := ep) hh view ⟨o, ho, hx, hdat⟩ (by omega) fun h' tk as hk hlt hl hG => ?_
  have lak : as.length = kps.length := by omega
  have nd : as.Nodup := List.Pairwise.imp (fun h => Nat.ne_of_lt h) hG.rise
  -- the pairs that were made
  have pr : ∀ (j : Nat) (b : Addr), as[j]? = some b → ∃ (t : KVP) (key x : Value), kps[j]? = some t ∧ keyIs t.1.1 key = true ∧ RelV t.1.2 x ∧ h'.get? b = some { cls := .type "tuple", data := .seq #[key, x] } := by
    intro j b hj
    obtain ⟨en, he, hg⟩ := hG.pairs j b hj
    have hjl : j < vs.length := by
      have := (List.getElem?_eq_some_iff.mp hj).1
      omega
    have hv : vs[j]? = some (vs[j].1, vs[j].2) := List.getElem?_eq_getElem hjl
    have hen : es.toList[j]? = some en := by rw [Array.getElem?_toList]; exact he
    obtain ⟨g1, g2⟩ := hpr.get? hen hv
    obtain ⟨y, hy, r1, r2⟩ := DX.pget kv hv
    rw [List.getElem?_map] at hy
    cases hkj : kps[j]? with
    | none => rw [hkj] at hy; cases hy
    | some t =>
      rw [hkj] at hy
      have et : t.1 = y := Option.some.inj hy
      refine ⟨t, en.key, en.val, rfl, ?_, ?_, hg⟩
      · rw [et, r1]; exact g1
      · rw [et, g2]; exact r2
  have hob : (h'.push { cls := .type "list", data := .seq (as.map Value.ref).toArray }).get? h'.objs.size = some (seqObj "list" (as.map Value.ref).toArray 0) := Heap.get?_push_size _ rfl
  have kb : ∀ b o, s.heap.get? b = some o → (h'.push { cls := .type "list", data := .seq (as.map Value.ref).toArray }).get? b = some o := fun b o e => Heap.get?_push_of_some _ (hk b o e)
  have ne0 : ∀ b o, h'.get? b = some o → b ≠ h'.objs.size := fun b o e => Nat.ne_of_lt (Heap.lt_size e)
  have hss : s.heap.objs.size ≤ h'.objs.size := Nat.le_of_lt hlt
  generalize hh2 : h'.push { cls := .type "list", data := .seq (as.map Value.ref).toArray } = h2 at hob kb ⊢
  have ka : ∀ b o, h'.get? b = some o → h2.get? b = some o := fun b o e => by rw [← hh2]; exact Heap.get?_push_of_some _ e
  obtain ⟨bs, hbs⟩ : ∃ bs : List (Addr × KVP), bs = as.zip kps := ⟨_, rfl⟩
  have bs1 : bs.map (·.1) = as := by rw [hbs]; exact List.map_fst_zip (by omega)
  have bs2 : bs.map (·.2) = kps := by rw [hbs]; exact List.map_snd_zip (by omega)
  have bmem : ∀ b ∈ bs, ∃ j : Nat, as[j]? = some b.1 ∧ kps[j]? = some b.2 := fun b hb => by
    rw [hbs] at hb
    obtain ⟨j, hj⟩ := List.mem_iff_getElem?.mp hb
    exact ⟨j, List.getElem?_zip_eq_some.mp hj⟩
  have bpr : ∀ b ∈ bs, ∃ key x : Value, keyIs b.2.1.1 key = true ∧ RelV b.2.1.2 x ∧ h'.get? b.1 = some { cls := .type "tuple", data := .seq #[key, x] } := fun b hb => by
    obtain ⟨j, j1, j2⟩ := bmem b hb
    obtain ⟨t, key, x, e1, e2, e3, e4⟩ := pr j b.1 j1
    rw [j2] at e1
    cases e1
    exact ⟨key, x, e2, e3, e4⟩
  have enc2 : bs.map (fun b => pairPy b.2) = kps.map pairPy := by rw [← bs2, List.map_map]; rfl
  have asr : as.map Value.ref = bs.map (fun b => Value.ref b.1) := by rw [← bs1, List.map_map]; rfl
  have al1 : ∀ b ∈ bs, alike (pairPy b.2) (pairPy b.2) = true := fun b hb => by
    have : pairPy b.2 ∈ kps.map pairPy := by rw [← enc2]; exact List.mem_map.mpr ⟨b, hb, rfl⟩
    exact hal _ this _ this
  have kps_mem : ∀ b ∈ bs, b.2 ∈ kps := fun b hb => by rw [← bs2]; exact List.mem_map.mpr ⟨b, hb, rfl⟩
  rw [asr] at hob
  refine list_sort_data (R := fun v b => v = Value.ref b.1) (bs := bs) (enc := fun b => pairPy b.2) hob (each_id _ _ fun _ _ => rfl) (each_id _ _ fun b hb => ?_) (by rw [enc2]; exact hal) (.tuples fun b => ⟨_, _, rfl⟩) (by rw [← List.length_map (f := fun b : Addr × KVP => b.2) (as := bs), bs2]; omega) (fun b hb => ?_) fun out ho he => ?_
  · obtain ⟨key, x, e2, e3, e4⟩ := bpr b hb
    obtain ⟨ar, hr⟩ := Dp.reads I _ _ _ (hd b.2 (kps_mem b hb)) e3
    have alx : alike b.2.2 b.2.2 = true := by
      have := al1 b hb
      simp only [pairPy, alike, alikeAll, Bool.and_eq_true] at this
      exact this.2.1
    refine ⟨[] ++ (ar ++ []), .tuple (ka _ _ e4) rfl rfl (.cons (kPy_reads e2) (.cons (PyProof.Rows.Reads.keeps kb hr) .nil)), ?_⟩
    simp only [List.nil_append, List.append_nil]
    intro hm
    have hlt2 : h'.objs.size < s.heap.objs.size := reads_lt _ _ _ alx hr _ hm
    omega
  · have := hdep b.2 (kps_mem b hb)
    show X.A.in1.units + 1 + _ < cLine
    have h2 : X.A.in1.units = X.A.units + 1 := rfl
    rw [h2]
    omega
  · have eo : out = (bs.mergeSort (dataLe false fun b => pairPy b.2)).map (fun b => Value.ref b.1) := each_eq _ he
    show EP X pins σ Q (.ref h'.objs.size) { s with heap := sortedHeap h2 h'.objs.size (bs.map fun b => Value.ref b.1) out.toArray, toks := tk }
    generalize hts : bs.mergeSort (dataLe false fun b => pairPy b.2) = ts at eo
    have tmem : ∀ t ∈ ts, t ∈ bs := fun t ht => by rw [← hts] at ht; exact List.mem_mergeSort.mp ht
    have tperm : ts.Perm bs := by rw [← hts]; exact List.mergeSort_perm _ _
    have tnd : (ts.map (·.1)).Nodup := by
      have := tperm.map (·.1)
      rw [bs1] at this
      exact this.nodup_iff.mpr nd
    have kF : ∀ b o, b ≠ h'.objs.size → h2.get? b = some o → (sortedHeap h2 h'.objs.size (bs.map fun b => Value.ref b.1) out.toArray).get? b = some o := fun b o hb e => (PyProof.Rows.sortedHeap_old hb (Heap.lt_size e)).trans e
    have kS : ∀ b o, s.heap.get? b = some o → (sortedHeap h2 h'.objs.size (bs.map fun b => Value.ref b.1) out.toArray).get? b = some o := fun b o e => kF b o (ne0 _ _ (hk b o e)) (kb b o e)
    obtain ⟨eF, heF⟩ := PyProof.Rows.sortedHeap_at (vs := bs.map fun b => Value.ref b.1) (out := out.toArray) hob
    generalize sortedHeap h2 h'.objs.size (bs.map fun b => Value.ref b.1) out.toArray = hf at kF kS heF ⊢
    have I1 : Inv X pins σ H { s with heap := hf, toks := tk } := I.kept (t' := tk) kS
    have hn0 : H h'.objs.size = none := I.hok.fresh hss
    have lts : ts.length = kps.length := by rw [tperm.length_eq, ← bs2, List.length_map]
    have rv : Vals (ts.map fun t => V.ref t.1) out := by
      rw [eo]
      exact vals_maps (fun t : Addr × KVP => V.ref t.1) (fun t => Value.ref t.1) ts fun _ _ => rfl
    have hlen : (ts.map fun t => V.ref t.1).length ≤ sizeLine := by rw [List.length_map]; omega
    have I2 : Inv X pins σ (upd H h'.objs.size (.lst (ts.map fun t => V.ref t.1))) { s with heap := hf, toks := tk } :=
      I1.take (h' := hf) (t' := tk) (fun b ob _ e => e) (I.fpOk hss hn0) ⟨hlen, out, eF, rv, heF⟩
    obtain ⟨H2, I3, g, qt⟩ := DX.takeT (P := fun b us => ∃ t ∈ ts, t.1 = b ∧ us = [kV t.2.1.1, t.2.1.2]) I (ts.map (·.1)) _ I2 tnd fun b hb => by
      obtain ⟨t, ht, rfl⟩ := List.mem_map.mp hb
      obtain ⟨key, x, e2, e3, e4⟩ := bpr t (tmem t ht)
      have hbl : s.heap.objs.size ≤ t.1 := by
        obtain ⟨j, j1, _⟩ := bmem t (tmem t ht)
        exact Nat.le_of_lt (hG.above t.1 (List.mem_of_getElem? j1))
      refine ⟨hbl, ?_, _, ⟨t, ht, rfl, rfl⟩, fun H3 => ⟨(by rw [sizeLine_eq]; show 2 ≤ 16777216; omega), [key, x], .cons (relV_key e2) (.cons e3 .nil), ⟨_, kF _ _ (ne0 _ _ e4) (ka _ _ e4), rfl, 0, rfl⟩⟩⟩
      rw [upd_ne (ne0 _ _ e4)]
      exact I.hok.fresh hbl
    have gr : ∀ b o, H b = some o → H2 b = some o := fun b o e => g b o (by rw [upd_ne (ne_of_none e hn0)]; exact e)
    refine ⟨.ref h'.objs.size, H2, I3, rfl, q H2 h'.objs.size ts gr hn0 (fun z => ?_) ?_ (g _ _ upd_same) fun t ht => ?_⟩
    · obtain ⟨t, ht, e⟩ := List.mem_map.mp z
      obtain ⟨key, x, e2, e3, e4⟩ := bpr t (tmem t ht)
      exact ne0 _ _ e4 e
    · have e := List.map_mergeSort (f := fun b : Addr × KVP => b.2) (l := bs) (r := dataLe false fun b => pairPy b.2) (s := dataLe false pairPy) fun _ _ _ _ => rfl
      rw [bs2, hts] at e
      exact e
    · obtain ⟨us, ⟨t', ht', e1, e2⟩, e3⟩ := qt t.1 (List.mem_map.mpr ⟨t, ht, rfl⟩)
      have : t' = t := by
        obtain ⟨i, hi⟩ := List.mem_iff_getElem?.mp ht
        obtain ⟨j, hj⟩ := List.mem_iff_getElem?.mp ht'
        have hi' : (ts.map (·.1))[i]? = some t.1 := by rw [List.getElem?_map, hi]; rfl
        have hj' : (ts.map (·.1))[j]? = some t.1 := by rw [List.getElem?_map, hj]; exact congrArg some e1
        have := (List.getElem?_inj (List.getElem?_eq_some_iff.mp hi').1 tnd).mp (hi'.trans hj'.symm)
        subst this
        rw [hi] at hj
        exact (Option.some.inj hj).symm
      subst this
      obtain ⟨key, x, _, _, e4⟩ := bpr t' (tmem t' ht)
      refine ⟨?_, by rw [e3, e2]⟩
      obtain ⟨j, j1, _⟩ := bmem t' (tmem t' ht)
      exact I.hok.fresh (Nat.le_of_lt (hG.above t'.1 (List.mem_of_getElem? j1)))

variable {G : Gx} {W : WX} {k : Nat} {bb : Bool}
def keyDD : L2.Key → D
  | .inl i => .int i
  | .inr s => .str s
theorem keyDD_rep {F : Hp} (k : L2.Key) : Rep G F (keyDD k) (kV k) := by
  cases k <;> simp only [keyDD, Rep, kV]
def rSI (K : PySem.W.Frag) : List V → Hp → VK → Prop := fun vs H Q => match vs with
  | [x] => tyW K "dict" x H ∧ rItemsK x [] H fun y H2 => rSortIt K [y] H2 Q
  | _ => False
def pairPyD (t : (L2.Key × D) × PyData) : PyData := .tuple [kPy t.1.1, t.2]
def sortItD (ks : List L2.Key) (ds : List D) (ps : List PyData) : List D := (((ks.zip ds).zip ps).mergeSort (dataLe false pairPyD)).map fun t => .tup [keyDD t.1.1, t.1.2]
def opSortIt : List D → Option OD
  | [.dk ks ds] => (toPys ds).bind fun ps => if okSort (((ks.zip ds).zip ps).map pairPyD) = true ∧ ks.length = ds.length ∧ ks.length ≤ sizeLine then some (.l ((sortItD ks ds ps).map .v)) else none
  | _ => none
theorem reps_zip' {F : Hp} : ∀ {ds : List D} {vs : List V}, Reps G F ds vs → ∀ t ∈ vs.zip ds, Rep G F t.2 t.1
  | [], vs, h, t, ht => by simp at ht
  | d :: ds, vs, h, t, ht => by
    simp only [Reps] at h
    obtain ⟨v, r, rfl, h1, h2⟩ := h
    simp only [List.zip_cons_cons, List.mem_cons] at ht
    rcases ht with rfl | ht
    · exact h1
    · exact reps_zip' h2 t ht
theorem zip_ix {α β : Type} {xs : List α} {ys : List β} {z : α × β} (h : z ∈ xs.zip ys) : ∃ i : Nat, xs[i]? = some z.1 ∧ ys[i]? = some z.2 := by
  obtain ⟨j, hj⟩ := List.mem_iff_getElem?.mp h
  exact ⟨j, List.getElem?_zip_eq_some.mp hj⟩
theorem zip3a {α β γ : Type} : ∀ (xs : List α) (ys : List β) (zs : List γ), xs.length = ys.length → ((xs.zip ys).zip zs).map (fun q => (q.1.1, q.2)) = xs.zip zs
  | [], _, _, _ => by simp
  | _ :: _, [], _, h => by simp at h
  | x :: xs, y :: ys, [], _ => by simp
  | x :: xs, y :: ys, z :: zs, h => by simp [zip3a xs ys zs (by simpa using h)]
theorem zip3b {α β γ δ : Type} (f : α → δ) : ∀ (xs : List α) (ys : List β) (zs : List γ), ((xs.zip ys).zip zs).map (fun q => ((f q.1.1, q.1.2), q.2)) = ((xs.map f).zip ys).zip zs
  | [], _, _ => by simp
  | _ :: _, [], _ => by simp
  | x :: xs, y :: ys, [] => by simp
  | x :: xs, y :: ys, z :: zs => by simp [zip3b f xs ys zs]
theorem rn_sortIt (hG : G.K = X.K) : RN G (rSI X.K) opSortIt := fun F H xs vs z Q le hr ez k => by
  unfold opSortIt at ez
  split at ez
  · rename_i ks ds
    obtain ⟨v, rfl, h⟩ := hr.one
    cases e2 : toPys ds with
    | none => rw [e2] at ez; cases ez
    | some ps =>
      rw [e2] at ez
      simp only [Option.bind_some] at ez
      split at ez
      · rename_i hc
        obtain ⟨c1, c2, c3⟩ := hc
        cases ez
        simp only [RepB] at h
        obtain ⟨a, kvs, rfl, hd, hk, hrep⟩ := h
        have lk : kvs.length = ks.length := by rw [← hk, List.length_map]
        have lp : ps.length = ds.length := toPys_len e2
        -- all of it, together
        let qs : List (((L2.Key × V) × D) × PyData) := (kvs.zip ds).zip ps
        have q1 : qs.map (fun q => (q.1.1, q.2)) = kvs.zip ps := zip3a _ _ _ (by omega)
        have q2 : qs.map (fun q => ((q.1.1.1, q.1.2), q.2)) = (ks.zip ds).zip ps := by
          rw [← hk]; exact zip3b (fun x : L2.Key × V => x.1) _ _ _
        have al : ∀ f : (((L2.Key × V) × D) × PyData) → PyData, (f = fun q => .tuple [kPy q.1.1.1, q.2]) → AllAlike (qs.map f) ∧ ∀ q ∈ qs, (f q).depth ≤ 60 := by
          intro f ef
          subst ef
          rw [← q2, List.map_map] at c1
          obtain ⟨o1, o2, o3⟩ := okSort_ok c1
          exact ⟨o1, fun q hq => o3 _ (List.mem_map.mpr ⟨q, hq, rfl⟩)⟩
        obtain ⟨al1, al2⟩ := al _ rfl
        have kz : (kvs.zip ps).map (·.1) = kvs := List.map_fst_zip (by omega)
        refine ⟨.inr ⟨a, kvs, rfl, rfl, hd⟩, a, kvs, rfl, rfl, hd, fun p hp => ?_⟩
        have hp2 : ∀ b o, H b = some o → upd H p (DX.itemsO p a) b = some o := fun b o e => by
          rw [upd_ne (fun y => by rw [y, hp] at e; cases e)]; exact e
        refine ⟨p, a, kvs.zip ps, rfl, upd_same, ?_, fun t ht => ?_, ?_, fun t ht => ?_, fun H' l ts g1 g2 g3 g4 g5 g6 => ?_⟩
        · rw [kz]; exact Le.rd hp2 hd
        · obtain ⟨i, i1, i2⟩ := zip_ix ht
          have hm : ((kvs.map (·.2)).zip ps)[i]? = some (t.1.2, t.2) := List.getElem?_zip_eq_some.mpr ⟨by rw [List.getElem?_map, i1]; rfl, i2⟩
          have hdp := hrep.dp (le.trans hp2) e2
          rw [hG] at hdp
          exact dpAll_mem hdp _ (List.mem_of_getElem? hm)
        · rw [← q1, List.map_map]; exact al1
        · rw [← q1] at ht
          obtain ⟨q, hq, rfl⟩ := List.mem_map.mp ht
          exact al2 q hq
        · have s1 : (qs.mergeSort (dataLe false fun q => .tuple [kPy q.1.1.1, q.2])).map (fun q => (q.1.1, q.2)) = (kvs.zip ps).mergeSort (dataLe false pairPy) := by
            have e := List.map_mergeSort (f := fun q : ((L2.Key × V) × D) × PyData => (q.1.1, q.2)) (l := qs) (r := dataLe false fun q => .tuple [kPy q.1.1.1, q.2]) (s := dataLe false pairPy) fun _ _ _ _ => rfl
            rw [q1] at e
            exact e
          have s2 : (qs.mergeSort (dataLe false fun q => .tuple [kPy q.1.1.1, q.2])).map (fun q => ((q.1.1.1, q.1.2), q.2)) = ((ks.zip ds).zip ps).mergeSort (dataLe false pairPyD) := by
            have e := List.map_mergeSort (f := fun q : ((L2.Key × V) × D) × PyData => ((q.1.1.1, q.1.2), q.2)) (l := qs) (r := dataLe false fun q => .tuple [kPy q.1.1.1, q.2]) (s := dataLe false pairPyD) fun _ _ _ _ => rfl
            rw [q2] at e
            exact e
          have hqm : ∀ q ∈ qs.mergeSort (dataLe false fun q => .tuple [kPy q.1.1.1, q.2]), Rep G F q.1.2 q.1.1.2 := fun q hq => by
            have hq := List.mem_mergeSort.mp hq
            obtain ⟨i, i1, i2⟩ := zip_ix hq
            obtain ⟨j1, j2⟩ := List.getElem?_zip_eq_some.mp i1
            have hm : ((kvs.map (·.2)).zip ds)[i]? = some (q.1.1.2, q.1.2) := List.getElem?_zip_eq_some.mpr ⟨by rw [List.getElem?_map, j1]; rfl, j2⟩
            exact reps_zip' hrep _ (List.mem_of_getElem? hm)
          rw [← s1] at g4
          have k := k
          unfold sortItD at k
          rw [← s2, List.map_map (g := fun t : (L2.Key × D) × PyData => D.tup [keyDD t.1.1, t.1.2])] at k
          generalize hqs : qs.mergeSort (dataLe false fun q => .tuple [kPy q.1.1.1, q.2]) = rs at g4 hqm k
          have hH : ∀ b o, H b = some o → H' b = some o := fun b o e => g1 b o (hp2 b o e)
          have n2 : ∀ b, upd H p (DX.itemsO p a) b = none → H b = none ∧ b ≠ p := fun b e => by
            by_cases y : b = p
            · rw [y, upd_same] at e; cases e
            · rw [upd_ne y] at e; exact ⟨e, y⟩
          let B : AS := fun b => b ∈ ts.map (·.1)
          have hB : ∀ b, B b → H b = none := fun b hb => by
            obtain ⟨t, ht, rfl⟩ := List.mem_map.mp hb
            exact (n2 _ (g6 t ht).1).1
          have Fn : ∀ b, H b = none → F b = none := fun b e => by
            cases q : F b with
            | none => rfl
            | some u => rw [le b u q] at e; cases e
          have lF : Le F (fzH F H' B) := fzH_le fun b hb => Fn b (hB b hb)
          have lN : ts.length = rs.length := by
            have := congrArg List.length g4
            simpa using this
          have hz1 : (ts.zip rs).map (·.1) = ts := List.map_fst_zip (by omega)
          have hz2 : (ts.zip rs).map (·.2) = rs := List.map_snd_zip (by omega)
          have hrs : Reps G (fzH F H' B) (rs.map fun q => D.tup [keyDD q.1.1.1, q.1.2]) (ts.map fun t => V.ref t.1) := by
            have e1 : rs.map (fun q => D.tup [keyDD q.1.1.1, q.1.2]) = (ts.zip rs).map (fun z => D.tup [keyDD z.2.1.1.1, z.2.1.2]) := by
              conv => lhs; rw [← hz2]
              rw [List.map_map]; rfl
            have e2 : ts.map (fun t => V.ref t.1) = (ts.zip rs).map (fun z => V.ref z.1.1) := by
              conv => lhs; rw [← hz1]
              rw [List.map_map]; rfl
            rw [e1, e2]
            refine Reps.map fun z hz => ?_
            obtain ⟨i, i1, i2⟩ := zip_ix hz
            have et : z.1.2 = (z.2.1.1, z.2.2) := by
              have h1 : (ts.map (·.2))[i]? = some z.1.2 := by rw [List.getElem?_map, i1]; rfl
              rw [g4, List.getElem?_map, i2] at h1
              exact (Option.some.inj h1).symm
            have hin : B z.1.1 := List.mem_map.mpr ⟨z.1, List.mem_of_getElem? i1, rfl⟩
            have ht := (g6 z.1 (List.mem_of_getElem? i1)).2
            show Rep G (fzH F H' B) (.tup [keyDD z.2.1.1.1, z.2.1.2]) (.ref z.1.1)
            simp only [Rep]
            refine ⟨z.1.1, _, rfl, .inl (.inl (by rw [fzH_in hin]; exact ht)), ?_⟩
            rw [et]
            exact .cons (keyDD_rep _) (.cons ((hqm z.2 (List.mem_of_getElem? i2)).mono lF) .nil)
          refine k (fzH F H' B) H' (.ref l) (fun b => b = l) ⟨lF, hH, fzH_leH (le.trans hH), fun b o e => ?_⟩ (ot_lv (ds := rs.map fun q => D.tup [keyDD q.1.1.1, q.1.2]) hrs g5) fun b hb => ?_
          · by_cases y : B b
            · exact .inr (hB b y)
            · rw [fzH_out y] at e; exact .inl e
          · subst hb
            have h0 := (n2 b g2).1
            refine ⟨h0, ?_⟩
            rw [fzH_out g3]
            exact Fn b h0
      · cases ez
  · cases ez
variable {e : Expr} {oa : Opd} {p pos apos cpos : Pos}
theorem e_sortIt (K : Ok X G W k true) (hu : X.A.units + 64 < cLine) (hm : G.mg "sorted" = none) (ha : SO X G W e oa) (hbase : attributeBase e "items" X.env (eval e X.env) = eval e X.env := by rfl) (hline : (apos.endLine == cpos.line) = true := by rfl) (hg : Gl X "sorted" := by rfl) 
    (hs : starEach [.Call (.Attribute e "items" apos) [] [] cpos] X.env = (false, eval (.Call (.Attribute e "items" apos) [] [] cpos) X.env) :: starEach [] X.env := by rfl) :
    SX X G W (pAll [oa]) (.Call (.Name "sorted" p) [.Call (.Attribute e "items" apos) [] [] cpos] [] pos) (mApp opSortIt [oa]) :=
  sx_app (pe_callB (cr_sortIt K.c hu) hg (K.m hm) (by rfl) (pa_cons (pe_bmW0 PySem.F.plainAttrs_dict PySem.F.slot_dict_items PySem.F.type_dict_items mt_itemsK ha hbase hline) pa_nil hs)) (rn_sortIt K.gK) fun σ H Q z => z
end
end Vs

/-! VsY: further operations are evaluated. -/
namespace Vs
open PySem L2
theorem isi_str_non : opIsi "str" [.non] = some (.v (.bl false)) := nr (by rfl)
theorem isi_str_bl {b : Bool} : opIsi "str" [(.bl b)] = some (.v (.bl false)) := nr (by rfl)
theorem isi_str_int {i : Int} : opIsi "str" [(.int i)] = some (.v (.bl false)) := nr (by rfl)
theorem isi_str_str {s : Str} : opIsi "str" [(.str s)] = some (.v (.bl true)) := nr (by rfl)
theorem isi_str_tup {ds : List D} : opIsi "str" [(.tup ds)] = some (.v (.bl false)) := nr (by rfl)
theorem isi_str_lst {ds : List D} : opIsi "str" [(.lst ds)] = some (.v (.bl false)) := nr (by rfl)
theorem isi_str_rol {ds : List D} : opIsi "str" [(.rol ds)] = some (.v (.bl false)) := nr (by rfl)
theorem isi_str_dk {ks : List Key} {ds : List D} : opIsi "str" [(.dk ks ds)] = some (.v (.bl false)) := nr (by rfl)
theorem isi_int_non : opIsi "int" [.non] = some (.v (.bl false)) := nr (by rfl)
theorem isi_int_bl {b : Bool} : opIsi "int" [(.bl b)] = some (.v (.bl true)) := nr (by rfl)
theorem isi_int_int {i : Int} : opIsi "int" [(.int i)] = some (.v (.bl true)) := nr (by rfl)
theorem isi_int_str {s : Str} : opIsi "int" [(.str s)] = some (.v (.bl false)) := nr (by rfl)
theorem isi_int_tup {ds : List D} : opIsi "int" [(.tup ds)] = some (.v (.bl false)) := nr (by rfl)
theorem isi_int_lst {ds : List D} : opIsi "int" [(.lst ds)] = some (.v (.bl false)) := nr (by rfl)
theorem isi_int_rol {ds : List D} : opIsi "int" [(.rol ds)] = some (.v (.bl false)) := nr (by rfl)
theorem isi_int_dk {ks : List Key} {ds : List D} : opIsi "int" [(.dk ks ds)] = some (.v (.bl false)) := nr (by rfl)
theorem isi_bool_non : opIsi "bool" [.non] = some (.v (.bl false)) := nr (by rfl)
theorem isi_bool_bl {b : Bool} : opIsi "bool" [(.bl b)] = some (.v (.bl true)) := nr (by rfl)
theorem isi_bool_int {i : Int} : opIsi "bool" [(.int i)] = some (.v (.bl false)) := nr (by rfl)
theorem isi_bool_str {s : Str} : opIsi "bool" [(.str s)] = some (.v (.bl false)) := nr (by rfl)
theorem isi_bool_tup {ds : List D} : opIsi "bool" [(.tup ds)] = some (.v (.bl false)) := nr (by rfl)
theorem isi_bool_lst {ds : List D} : opIsi "bool" [(.lst ds)] = some (.v (.bl false)) := nr (by rfl)
theorem isi_bool_rol {ds : List D} : opIsi "bool" [(.rol ds)] = some (.v (.bl false)) := nr (by rfl)
theorem isi_bool_dk {ks : List Key} {ds : List D} : opIsi "bool" [(.dk ks ds)] = some (.v (.bl false)) := nr (by rfl)
theorem isi_tuple_non : opIsi "tuple" [.non] = some (.v (.bl false)) := nr (by rfl)
theorem isi_tuple_bl {b : Bool} : opIsi "tuple" [(.bl b)] = some (.v (.bl false)) := nr (by rfl)
theorem isi_tuple_int {i : Int} : opIsi "tuple" [(.int i)] = some (.v (.bl false)) := nr (by rfl)
theorem isi_tuple_str {s : Str} : opIsi "tuple" [(.str s)] = some (.v (.bl false)) := nr (by rfl)
theorem isi_tuple_tup {ds : List D} : opIsi "tuple" [(.tup ds)] = some (.v (.bl true)) := nr (by rfl)
theorem isi_tuple_lst {ds : List D} : opIsi "tuple" [(.lst ds)] = some (.v (.bl false)) := nr (by rfl)
theorem isi_tuple_rol {ds : List D} : opIsi "tuple" [(.rol ds)] = some (.v (.bl false)) := nr (by rfl)
theorem isi_tuple_dk {ks : List Key} {ds : List D} : opIsi "tuple" [(.dk ks ds)] = some (.v (.bl false)) := nr (by rfl)
theorem isi_list_non : opIsi "list" [.non] = some (.v (.bl false)) := nr (by rfl)
theorem isi_list_bl {b : Bool} : opIsi "list" [(.bl b)] = some (.v (.bl false)) := nr (by rfl)
theorem isi_list_int {i : Int} : opIsi "list" [(.int i)] = some (.v (.bl false)) := nr (by rfl)
theorem isi_list_str {s : Str} : opIsi "list" [(.str s)] = some (.v (.bl false)) := nr (by rfl)
theorem isi_list_tup {ds : List D} : opIsi "list" [(.tup ds)] = some (.v (.bl false)) := nr (by rfl)
theorem isi_list_lst {ds : List D} : opIsi "list" [(.lst ds)] = some (.v (.bl true)) := nr (by rfl)
theorem isi_list_rol {ds : List D} : opIsi "list" [(.rol ds)] = some (.v (.bl true)) := nr (by rfl)
theorem isi_list_dk {ks : List Key} {ds : List D} : opIsi "list" [(.dk ks ds)] = some (.v (.bl false)) := nr (by rfl)
theorem isi_dict_non : opIsi "dict" [.non] = some (.v (.bl false)) := nr (by rfl)
theorem isi_dict_bl {b : Bool} : opIsi "dict" [(.bl b)] = some (.v (.bl false)) := nr (by rfl)
theorem isi_dict_int {i : Int} : opIsi "dict" [(.int i)] = some (.v (.bl false)) := nr (by rfl)
theorem isi_dict_str {s : Str} : opIsi "dict" [(.str s)] = some (.v (.bl false)) := nr (by rfl)
theorem isi_dict_tup {ds : List D} : opIsi "dict" [(.tup ds)] = some (.v (.bl false)) := nr (by rfl)
theorem isi_dict_lst {ds : List D} : opIsi "dict" [(.lst ds)] = some (.v (.bl false)) := nr (by rfl)
theorem isi_dict_rol {ds : List D} : opIsi "dict" [(.rol ds)] = some (.v (.bl false)) := nr (by rfl)
theorem isi_dict_dk {ks : List Key} {ds : List D} : opIsi "dict" [(.dk ks ds)] = some (.v (.bl true)) := nr (by rfl)
theorem opAll_e {ds : List D} {bs : List Bool} (h : boolsD ds = some bs) : opAll [.lst ds] = some (.v (.bl (bs.all id))) := by
  show ((boolsD ds).map fun bs => OD.v (.bl (bs.all id))) = _
  rw [h]; rfl
theorem opAny_e {ds : List D} {bs : List Bool} (h : boolsD ds = some bs) : opAny [.lst ds] = some (.v (.bl (bs.any id))) := by
  show ((boolsD ds).map fun bs => OD.v (.bl (bs.any id))) = _
  rw [h]; rfl
theorem boolsD_map {α : Type} (f : α → Bool) : ∀ xs : List α, boolsD (xs.map fun x => D.bl (f x)) = some (xs.map f)
  | [] => rfl
  | x :: xs => by simp [boolsD, boolsD_map f xs]
theorem opAll_map {α : Type} (f : α → Bool) (xs : List α) : opAll [.lst (xs.map fun x => D.bl (f x))] = some (.v (.bl (xs.all f))) := by
  rw [opAll_e (boolsD_map f xs)]; simp [List.all_map]
theorem opAny_map {α : Type} (f : α → Bool) (xs : List α) : opAny [.lst (xs.map fun x => D.bl (f x))] = some (.v (.bl (xs.any f))) := by
  rw [opAny_e (boolsD_map f xs)]; simp [List.any_map]
theorem opMin_int {i j : Int} : opMin [.int i, .int j] = some (.v (.int (if j < i then j else i))) := nr rfl
theorem opMax_int {i j : Int} : opMax [.int i, .int j] = some (.v (.int (if j > i then j else i))) := nr rfl
theorem opNeg_int {i : Int} : opNeg [.int i] = some (.v (.int (-i))) := nr rfl
theorem opTuple_lst {ds : List D} : opTuple [.lst ds] = some (.v (.tup ds)) := nr rfl
theorem opTuple_rol {ds : List D} : opTuple [.rol ds] = some (.v (.tup ds)) := nr rfl
theorem opTuple_tup {ds : List D} : opTuple [.tup ds] = some (.v (.tup ds)) := nr rfl
theorem opLen_str {s : Str} (h : s.length ≤ sizeLine) : opLen [.str s] = some (.v (.int s.length)) := by
  show ((if s.length ≤ sizeLine then some (D.int s.length) else none).map OD.v) = _
  rw [if_pos h]; rfl
theorem opLen_dk {ks : List Key} {ds : List D} : opLen [.dk ks ds] = some (.v (.int ks.length)) := nr rfl
theorem opIsN_non : opIsN [.non, .non] = some (.v (.bl true)) := nr rfl
theorem opNotN_non : opNotN [.non, .non] = some (.v (.bl false)) := nr rfl
theorem opIsN_bl {b : Bool} : opIsN [(.bl b), .non] = some (.v (.bl false)) := nr rfl
theorem opNotN_bl {b : Bool} : opNotN [(.bl b), .non] = some (.v (.bl true)) := nr rfl
theorem opIsN_int {i : Int} : opIsN [(.int i), .non] = some (.v (.bl false)) := nr rfl
theorem opNotN_int {i : Int} : opNotN [(.int i), .non] = some (.v (.bl true)) := nr rfl
theorem opIsN_str {s : Str} : opIsN [(.str s), .non] = some (.v (.bl false)) := nr rfl
theorem opNotN_str {s : Str} : opNotN [(.str s), .non] = some (.v (.bl true)) := nr rfl
theorem opIsN_tup {ds : List D} : opIsN [(.tup ds), .non] = some (.v (.bl false)) := nr rfl
theorem opNotN_tup {ds : List D} : opNotN [(.tup ds), .non] = some (.v (.bl true)) := nr rfl
theorem opIsN_lst {ds : List D} : opIsN [(.lst ds), .non] = some (.v (.bl false)) := nr rfl
theorem opNotN_lst {ds : List D} : opNotN [(.lst ds), .non] = some (.v (.bl true)) := nr rfl
theorem opIsN_rol {ds : List D} : opIsN [(.rol ds), .non] = some (.v (.bl false)) := nr rfl
theorem opNotN_rol {ds : List D} : opNotN [(.rol ds), .non] = some (.v (.bl true)) := nr rfl
theorem opIsN_dk {ks : List Key} {ds : List D} : opIsN [(.dk ks ds), .non] = some (.v (.bl false)) := nr rfl
theorem opNotN_dk {ks : List Key} {ds : List D} : opNotN [(.dk ks ds), .non] = some (.v (.bl true)) := nr rfl
theorem opLt_str {i j : Str} : opLt [.str i, .str j] = some (.v (.bl (decide (i.cps.toList < j.cps.toList)))) := nr rfl
theorem opLe_str {i j : Str} : opLe [.str i, .str j] = some (.v (.bl (!decide (j.cps.toList < i.cps.toList)))) := nr rfl
theorem opIn_1 {b : Bool} {c : Nat} {z : Str} : opIn b [.str ⟨#[c]⟩, .str z] = some (.v (.bl (b ^^ decide (c ∈ z.cps.toList)))) := nr rfl
theorem opIn_dk {b : Bool} {s : Str} {ks : List Key} {ds : List D} : opIn b [.str s, .dk ks ds] = some (.v (.bl (b ^^ hasK ks (.inr s)))) := nr rfl
theorem opIn_dki {b : Bool} {i : Int} {ks : List Key} {ds : List D} : opIn b [.int i, .dk ks ds] = some (.v (.bl (b ^^ hasK ks (.inl i)))) := nr rfl
theorem opIn_dkn {b : Bool} {ks : List Key} {ds : List D} : opIn b [.non, .dk ks ds] = some (.v (.bl (b ^^ false))) := nr rfl
def chainC (g g' : Int → Int → Bool) (fc : M OD) (x y : OD) : M Bool := fun ρ2 => match x, y with
  | .v (.int i), .v (.int j) => if g i j then (fc ρ2).bind fun z ρ3 => match z with
    | .v (.int k) => .ok (g' j k) ρ3
    | _ => .stuck
    else .ok false ρ2
  | _, _ => .stuck
def chainD (g' : Int → Int → Bool) (j : Int) (z : OD) : M Bool := fun ρ3 => match z with
  | .v (.int k) => .ok (g' j k) ρ3
  | _ => .stuck
theorem mChain_e {g g' : Int → Int → Bool} {fa fb fc : M OD} {ρ : Env} : mChain g g' fa fb fc ρ = (fa ρ).bind fun x ρ1 => (fb ρ1).bind fun y ρ2 => chainC g g' fc x y ρ2 := nr rfl
theorem chainC_e {g g' : Int → Int → Bool} {fc : M OD} {i j : Int} {ρ : Env} : chainC g g' fc (.v (.int i)) (.v (.int j)) ρ = if g i j = true then (fc ρ).bind fun z ρ3 => chainD g' j z ρ3 else .ok false ρ := nr rfl
theorem chainD_e {g' : Int → Int → Bool} {j k : Int} {ρ : Env} : chainD g' j (.v (.int k)) ρ = .ok (g' j k) ρ := nr rfl
theorem gLe_e {i j : Int} : gLe i j = decide (i ≤ j) := nr rfl
theorem gLt_e {i j : Int} : gLt i j = decide (i < j) := nr rfl
def isLs (x : Option OD) : Bool := match x with
  | some (.l _) => true
  | _ => false
theorem isLs_l {xs : List OD} : isLs (some (.l xs)) = true := nr rfl
def appL (x : Option OD) (v : OD) (i : Nat) (ρ : Env) : Out Fl := match x with
  | some (.l xs) => if xs.length < sizeLine then .ok .nx (ρ.set i (some (.l (xs ++ [v])))) else .stuck
  | _ => .stuck
theorem appL_l {xs : List OD} {v : OD} {i : Nat} {ρ : Env} (h : xs.length < sizeLine) : appL (some (.l xs)) v i ρ = .ok .nx (ρ.set i (some (.l (xs ++ [v])))) := if_pos h
theorem zApp_e {i : Nat} {fv : M OD} {ρ : Env} : zApp i fv ρ = if isLs (ρ[i]?.join) = true then (fv ρ).bind fun v ρ1 => appL (ρ1[i]?.join) v i ρ1 else .stuck := by
  unfold zApp
  cases ρ[i]?.join with
  | none => rfl
  | some od => cases od <;> rfl
def mvO (x : Option (Option OD)) (i : Nat) (ρ : Env) : Out OD := match x with
  | some (some od) => .ok od (ρ.set i none)
  | _ => .stuck
theorem mvO_some {od : OD} {i : Nat} {ρ : Env} : mvO (some (some od)) i ρ = .ok od (ρ.set i none) := nr rfl
theorem mMv_o {i : Nat} {ρ : Env} : mMv i ρ = mvO (ρ[i]?) i ρ := by unfold mMv mvO; rfl
theorem small_line' {n : Nat} (h : n ≤ 1000000) : n < sizeLine := Nat.lt_of_le_of_lt h (by decide)
/-! parts -/
theorem slotAt_e {ρ : Env} {i : Nat} {π : List PStep} : slotAt ρ i π = (ρ[i]?.join).bind (OD.at π) := nr rfl
def getP (x : Option OD) (ρ : Env) : Out OD := match x with
  | some (.v d) => .ok (.v d) ρ
  | _ => .stuck
theorem getP_v {d : D} {ρ : Env} : getP (some (.v d)) ρ = .ok (.v d) ρ := nr rfl
theorem mGet_e {i : Nat} {π : List PStep} {ρ : Env} : mGet i π ρ = getP (slotAt ρ i π) ρ := by unfold mGet getP; rfl
def popP (x : Option OD) (i : Nat) (π : List PStep) (ρ : Env) : Out OD := match x with
  | some od => match od.at π with
    | some (.l xs) => match xs[xs.length - 1]?, od.putAt π (.l xs.dropLast) with
      | some x, some od' => .ok x (ρ.set i (some od'))
      | _, _ => .stuck
    | _ => .stuck
  | none => .stuck
theorem mPop_e {i : Nat} {π : List PStep} {ρ : Env} : mPop i π ρ = popP (ρ[i]?.join) i π ρ := by unfold mPop popP; rfl
theorem popP_snoc {xs : List OD} {x : OD} {i : Nat} {ρ : Env} : popP (some (.l (xs ++ [x]))) i [] ρ = .ok x (ρ.set i (some (.l xs))) := by
  unfold popP
  simp [OD.at, OD.putAt]
theorem popP_at {od : OD} {xs : List OD} {x od' : OD} {i : Nat} {π : List PStep} {ρ : Env} (h : od.at π = some (.l (xs ++ [x]))) (h2 : od.putAt π (.l xs) = some od') : popP (some od) i π ρ = .ok x (ρ.set i (some od')) := by
  unfold popP
  simp [h, h2]
def appPP (x : Option OD) (i : Nat) (π : List PStep) (v : OD) (ρ1 : Env) : Out Fl := match x with
  | some od => match od.at π with
    | some (.l xs) => match od.putAt π (.l (xs ++ [v])) with
      | some od' => if xs.length < sizeLine then .ok .nx (ρ1.set i (some od')) else .stuck
      | none => .stuck
    | _ => .stuck
  | none => .stuck
theorem zAppP_e {i : Nat} {π : List PStep} {fv : M OD} {ρ : Env} : zAppP i π fv ρ = if isLs (slotAt ρ i π) = true then (fv ρ).bind fun v ρ1 => appPP (ρ1[i]?.join) i π v ρ1 else .stuck := by
  unfold zAppP appPP
  cases slotAt ρ i π with
  | none => rfl
  | some od => cases od <;> rfl
theorem appPP_at {od : OD} {xs : List OD} {v od' : OD} {i : Nat} {π : List PStep} {ρ : Env} (h : od.at π = some (.l xs)) (h2 : od.putAt π (.l (xs ++ [v])) = some od') (hl : xs.length < sizeLine) : appPP (some od) i π v ρ = .ok .nx (ρ.set i (some od')) := by
  unfold appPP
  simp [h, h2, hl]
theorem opAdd_str {x y : Str} (h : x.length + y.length ≤ sizeLine) : opAdd [.str x, .str y] = some (.v (.str (x ++ y))) := by
  unfold opAdd dI dAddS
  simp [h]
theorem opAdd_lst {xs ys : List D} (h : xs.length + ys.length ≤ sizeLine) : opAdd [.lst xs, .lst ys] = some (.l ((xs ++ ys).map .v)) := by
  unfold opAdd dI dAddS dAddL
  simp only [Option.map_none, Option.none_or, if_pos h]
  rfl
theorem opAdd_tup {xs ys : List D} (h : xs.length + ys.length ≤ sizeLine) : opAdd [.tup xs, .tup ys] = some (.v (.tup (xs ++ ys))) := by
  unfold opAdd dI dAddS dAddL dAddT
  simp only [Option.map_none, Option.none_or, if_pos h]
  rfl
/-! equality -/
theorem opEq_same {d : D} {p : PyData} (h : toPy d = some p) (h1 : p.plain = true) (h2 : p.depth ≤ 60) : opEq [d, d] = some (.v (.bl true)) := by
  simp only [opEq, dEq, h, Option.bind_some, h1, Bool.true_and, Nat.min_self, decide_eq_true h2, if_true, PySem.SeqAt.eqv_refl_plain p h1, Option.map_some]
theorem opNe_same {d : D} {p : PyData} (h : toPy d = some p) (h1 : p.plain = true) (h2 : p.depth ≤ 60) : opNe [d, d] = some (.v (.bl false)) := by
  simp only [opNe, dEq, h, Option.bind_some, h1, Bool.true_and, Nat.min_self, decide_eq_true h2, if_true, PySem.SeqAt.eqv_refl_plain p h1, Option.map_some, Bool.not_true]
/-! exceptions -/
def tryA (sub : Str → Option Bool) (i : Nat) (suite : XV → SM) (o : Out Fl) : Out Fl := match o with
  | .exc x ρ1 => match sub x.cls with
    | some true => if nxE ρ1 = true ∧ i < ρ1.length ∧ D.nxs x.vs = true then match suite x (ρ1.set i (some (.v (.exn x.fs x.vs)))) with
      | .ok fl ρ2 => if nxE (ρ2.set i none) = true ∧ nxF fl = true then .ok fl (ρ2.set i none) else .stuck
      | _ => .stuck else .stuck
    | some false => .exc x ρ1
    | none => .stuck
  | o => o
theorem zTryAs_e {sub : Str → Option Bool} {i : Nat} {body : SM} {suite : XV → SM} {ρ : Env} : zTryAs sub i body suite ρ = tryA sub i suite (body ρ) := by
  unfold zTryAs tryA
  cases body ρ <;> rfl
theorem tryA_ok {sub : Str → Option Bool} {i : Nat} {suite : XV → SM} {fl : Fl} {ρ : Env} : tryA sub i suite (.ok fl ρ) = .ok fl ρ := nr rfl
theorem tryA_exc {sub : Str → Option Bool} {i : Nat} {suite : XV → SM} {x : XV} {ρ1 : Env} {fl : Fl} {ρ2 : Env} (h : sub x.cls = some true) (h1 : nxE ρ1 = true) (h2 : i < ρ1.length) (h5 : D.nxs x.vs = true) (e : suite x (ρ1.set i (some (.v (.exn x.fs x.vs)))) = .ok fl ρ2) (h3 : nxE (ρ2.set i none) = true) (h4 : nxF fl = true) :
    tryA sub i suite (.exc x ρ1) = .ok fl (ρ2.set i none) := by
  unfold tryA
  simp only [h, h1, h2, h5, and_self, if_true, e, h3, h4]
theorem tryA_pass {sub : Str → Option Bool} {i : Nat} {suite : XV → SM} {x : XV} {ρ1 : Env} (h : sub x.cls = some false) : tryA sub i suite (.exc x ρ1) = .exc x ρ1 := by
  unfold tryA
  simp only [h]
theorem zRaise0_e {c : Str} {ρ : Env} : zRaise0 c ρ = .exc ⟨c, [], []⟩ ρ := nr rfl
/-! comprehensions without effects -/
theorem cLoop_pure {tg : Tgt} {vs : List Nat} {e : M OD} {g : D → D} {ρ : Env} : ∀ (ds acc : List D), (∀ d ∈ ds, ∃ ρ1 od ρ2, tg.put d (wipeE ρ vs) = some ρ1 ∧ e ρ1 = .ok od ρ2 ∧ od.fz = g d ∧ wipeE ρ2 vs = ρ) → wipeE ρ vs = ρ → acc.length + ds.length ≤ sizeLine → cLoop tg vs bYes e ds acc ρ = .ok (acc ++ ds.map g) ρ
  | [], acc, _, _, _ => by simp [cLoop]
  | d :: ds, acc, h, hw, hl => by
    obtain ⟨ρ1, od, ρ2, e1, e2, e3, e4⟩ := h d List.mem_cons_self
    have hl' : acc.length + (ds.length + 1) ≤ sizeLine := hl
    have ih := cLoop_pure (g := g) ds (acc ++ [od.fz]) (fun x hx => h x (List.mem_cons_of_mem _ hx)) hw (by simp; omega)
    show (match tg.put d (wipeE ρ vs) with
    | some ρ1 => match bYes ρ1 with
      | .ok true ρ2 => match e ρ2 with
        | .ok od ρ3 => if acc.length < sizeLine then cLoop tg vs bYes e ds (acc ++ [od.fz]) (wipeE ρ3 vs) else .stuck
        | _ => .stuck
      | .ok false ρ2 => cLoop tg vs bYes e ds acc (wipeE ρ2 vs)
      | _ => .stuck
    | none => .stuck) = _
    rw [e1]
    show (match e ρ1 with
        | .ok od ρ3 => if acc.length < sizeLine then cLoop tg vs bYes e ds (acc ++ [od.fz]) (wipeE ρ3 vs) else .stuck
        | _ => .stuck) = _
    rw [e2]
    show (if acc.length < sizeLine then cLoop tg vs bYes e ds (acc ++ [od.fz]) (wipeE ρ2 vs) else .stuck) = _
    rw [if_pos (by omega), e4, ih, e3]
    simp
/-- with a test -/
theorem cLoop_if {tg : Tgt} {vs : List Nat} {c : M Bool} {e : M OD} {t : D → Bool} {g : D → D} {ρ : Env} : ∀ (ds acc : List D), (∀ d ∈ ds, ∃ ρ1 ρ2, tg.put d (wipeE ρ vs) = some ρ1 ∧ c ρ1 = .ok (t d) ρ2 ∧ wipeE ρ2 vs = ρ ∧ (t d = true → ∃ od ρ3, e ρ2 = .ok od ρ3 ∧ od.fz = g d ∧ wipeE ρ3 vs = ρ)) → wipeE ρ vs = ρ → acc.length + ds.length ≤ sizeLine → cLoop tg vs c e ds acc ρ = .ok (acc ++ (ds.filter t).map g) ρ
  | [], acc, _, _, _ => by simp [cLoop]
  | d :: ds, acc, h, hw, hl => by
    obtain ⟨ρ1, ρ2, e1, e2, e3, e4⟩ := h d List.mem_cons_self
    have hl' : acc.length + (ds.length + 1) ≤ sizeLine := hl
    show (match tg.put d (wipeE ρ vs) with
    | some ρ1 => match c ρ1 with
      | .ok true ρ2 => match e ρ2 with
        | .ok od ρ3 => if acc.length < sizeLine then cLoop tg vs c e ds (acc ++ [od.fz]) (wipeE ρ3 vs) else .stuck
        | _ => .stuck
      | .ok false ρ2 => cLoop tg vs c e ds acc (wipeE ρ2 vs)
      | _ => .stuck
    | none => .stuck) = _
    rw [e1]
    simp only [e2]
    cases ht : t d with
    | false =>
      have ih := cLoop_if (g := g) (t := t) (c := c) (e := e) ds acc (fun x hx => h x (List.mem_cons_of_mem _ hx)) hw (by omega)
      simp only [e3, ih, List.filter_cons, ht]
      rfl
    | true =>
      obtain ⟨od, ρ3, e5, e6, e7⟩ := e4 ht
      have ih := cLoop_if (g := g) (t := t) (c := c) (e := e) ds (acc ++ [od.fz]) (fun x hx => h x (List.mem_cons_of_mem _ hx)) hw (by simp; omega)
      simp only [e5]
      rw [if_pos (by omega), e7, ih, e6]
      simp [List.filter_cons, ht]
/-- a comprehension over data without effects, and its elements -/
theorem mComp_pure {it : M (List D)} {tg : Tgt} {vs : List Nat} {e : M OD} {ρ ρ1 : Env} {ds : List D} (g : D → D) (hi : it ρ = .ok ds ρ1) (hw : wipeE (wipeE ρ1 vs) vs = wipeE ρ1 vs) (hl : ds.length ≤ sizeLine)
    (h : ∀ d ∈ ds, ∃ ρ2 od ρ3, tg.put d (wipeE ρ1 vs) = some ρ2 ∧ e ρ2 = .ok od ρ3 ∧ od.fz = g d ∧ wipeE ρ3 vs = wipeE ρ1 vs) : mComp it tg vs bYes e ρ = .ok (.l ((ds.map g).map .v)) (wipeE ρ1 vs) := by
  rw [mComp_e, hi, Out.bind_ok, cLoop_pure (g := g) ds [] (by rw [hw]; exact h) hw (by simpa using hl), Out.bind_ok]
  rfl
/-- over any row -/
theorem cLoop_map {α : Type} {tg : Tgt} {vs : List Nat} {e : M OD} {f g : α → D} {ρ : Env} : ∀ (xs : List α) (acc : List D), (∀ x ∈ xs, ∃ ρ1 od ρ2, tg.put (f x) (wipeE ρ vs) = some ρ1 ∧ e ρ1 = .ok od ρ2 ∧ od.fz = g x ∧ wipeE ρ2 vs = ρ) → wipeE ρ vs = ρ → acc.length + xs.length ≤ sizeLine → cLoop tg vs bYes e (xs.map f) acc ρ = .ok (acc ++ xs.map g) ρ
  | [], acc, _, _, _ => by simp [cLoop]
  | d :: ds, acc, h, hw, hl => by
    obtain ⟨ρ1, od, ρ2, e1, e2, e3, e4⟩ := h d List.mem_cons_self
    have hl' : acc.length + (ds.length + 1) ≤ sizeLine := hl
    have ih := cLoop_map (f := f) (g := g) ds (acc ++ [od.fz]) (fun x hx => h x (List.mem_cons_of_mem _ hx)) hw (by simp; omega)
    show (match tg.put (f d) (wipeE ρ vs) with
    | some ρ1 => match bYes ρ1 with
      | .ok true ρ2 => match e ρ2 with
        | .ok od ρ3 => if acc.length < sizeLine then cLoop tg vs bYes e (ds.map f) (acc ++ [od.fz]) (wipeE ρ3 vs) else .stuck
        | _ => .stuck
      | .ok false ρ2 => cLoop tg vs bYes e (ds.map f) acc (wipeE ρ2 vs)
      | _ => .stuck
    | none => .stuck) = _
    rw [e1]
    show (match e ρ1 with
        | .ok od ρ3 => if acc.length < sizeLine then cLoop tg vs bYes e (ds.map f) (acc ++ [od.fz]) (wipeE ρ3 vs) else .stuck
        | _ => .stuck) = _
    rw [e2]
    show (if acc.length < sizeLine then cLoop tg vs bYes e (ds.map f) (acc ++ [od.fz]) (wipeE ρ2 vs) else .stuck) = _
    rw [if_pos (by omega), e4, ih, e3]
    simp
theorem cLoop_mapIf {α : Type} {tg : Tgt} {vs : List Nat} {c : M Bool} {e : M OD} {t : α → Bool} {f g : α → D} {ρ : Env} : ∀ (xs : List α) (acc : List D), (∀ x ∈ xs, ∃ ρ1 ρ2, tg.put (f x) (wipeE ρ vs) = some ρ1 ∧ c ρ1 = .ok (t x) ρ2 ∧ wipeE ρ2 vs = ρ ∧ (t x = true → ∃ od ρ3, e ρ2 = .ok od ρ3 ∧ od.fz = g x ∧ wipeE ρ3 vs = ρ)) → wipeE ρ vs = ρ → acc.length + xs.length ≤ sizeLine → cLoop tg vs c e (xs.map f) acc ρ = .ok (acc ++ (xs.filter t).map g) ρ
  | [], acc, _, _, _ => by simp [cLoop]
  | d :: ds, acc, h, hw, hl => by
    obtain ⟨ρ1, ρ2, e1, e2, e3, e4⟩ := h d List.mem_cons_self
    have hl' : acc.length + (ds.length + 1) ≤ sizeLine := hl
    show (match tg.put (f d) (wipeE ρ vs) with
    | some ρ1 => match c ρ1 with
      | .ok true ρ2 => match e ρ2 with
        | .ok od ρ3 => if acc.length < sizeLine then cLoop tg vs c e (ds.map f) (acc ++ [od.fz]) (wipeE ρ3 vs) else .stuck
        | _ => .stuck
      | .ok false ρ2 => cLoop tg vs c e (ds.map f) acc (wipeE ρ2 vs)
      | _ => .stuck
    | none => .stuck) = _
    rw [e1]
    simp only [e2]
    cases ht : t d with
    | false =>
      have ih := cLoop_mapIf (f := f) (g := g) (t := t) (c := c) (e := e) ds acc (fun x hx => h x (List.mem_cons_of_mem _ hx)) hw (by omega)
      simp only [e3, ih, List.filter_cons, ht]
      rfl
    | true =>
      obtain ⟨od, ρ3, e5, e6, e7⟩ := e4 ht
      have ih := cLoop_mapIf (f := f) (g := g) (t := t) (c := c) (e := e) ds (acc ++ [od.fz]) (fun x hx => h x (List.mem_cons_of_mem _ hx)) hw (by simp; omega)
      simp only [e5]
      rw [if_pos (by omega), e7, ih, e6]
      simp [List.filter_cons, ht]
theorem mComp_map {α : Type} {it : M (List D)} {tg : Tgt} {vs : List Nat} {e : M OD} {ρ ρ1 : Env} (xs : List α) (f g : α → D) (hi : it ρ = .ok (xs.map f) ρ1) (hw : wipeE (wipeE ρ1 vs) vs = wipeE ρ1 vs) (hl : xs.length ≤ sizeLine)
    (h : ∀ x ∈ xs, ∃ ρ2 od ρ3, tg.put (f x) (wipeE ρ1 vs) = some ρ2 ∧ e ρ2 = .ok od ρ3 ∧ od.fz = g x ∧ wipeE ρ3 vs = wipeE ρ1 vs) : mComp it tg vs bYes e ρ = .ok (.l ((xs.map g).map .v)) (wipeE ρ1 vs) := by
  rw [mComp_e, hi, Out.bind_ok, cLoop_map (f := f) (g := g) xs [] (by rw [hw]; exact h) hw (by simpa using hl), Out.bind_ok]
  rfl
theorem mComp_mapIf {α : Type} {it : M (List D)} {tg : Tgt} {vs : List Nat} {c : M Bool} {e : M OD} {ρ ρ1 : Env} (xs : List α) (t : α → Bool) (f g : α → D) (hi : it ρ = .ok (xs.map f) ρ1) (hw : wipeE (wipeE ρ1 vs) vs = wipeE ρ1 vs) (hl : xs.length ≤ sizeLine)
    (h : ∀ x ∈ xs, ∃ ρ2 ρ3, tg.put (f x) (wipeE ρ1 vs) = some ρ2 ∧ c ρ2 = .ok (t x) ρ3 ∧ wipeE ρ3 vs = wipeE ρ1 vs ∧ (t x = true → ∃ od ρ4, e ρ3 = .ok od ρ4 ∧ od.fz = g x ∧ wipeE ρ4 vs = wipeE ρ1 vs)) : mComp it tg vs c e ρ = .ok (.l (((xs.filter t).map g).map .v)) (wipeE ρ1 vs) := by
  rw [mComp_e, hi, Out.bind_ok, cLoop_mapIf (f := f) (g := g) (t := t) xs [] (by rw [hw]; exact h) hw (by simpa using hl), Out.bind_ok]
  rfl
/-- a comprehension with effects, by what is left -/
theorem cLoop_left {tg : Tgt} {vs : List Nat} {e : M OD} {I : Nat → Env → Prop} {P : D → Prop} (h : ∀ k d ρ, I (k + 1) ρ → ∃ ρ1 od ρ2, tg.put d (wipeE ρ vs) = some ρ1 ∧ e ρ1 = .ok od ρ2 ∧ P od.fz ∧ I k (wipeE ρ2 vs)) :
    ∀ (ds acc : List D) (ρ : Env), acc.length + ds.length ≤ sizeLine → I ds.length ρ → ∃ out ρ', cLoop tg vs bYes e ds acc ρ = .ok (acc ++ out) ρ' ∧ I 0 ρ' ∧ (∀ d ∈ out, P d) ∧ out.length = ds.length
  | [], acc, ρ, _, i => ⟨[], ρ, by simp [cLoop], i, by simp, rfl⟩
  | d :: ds, acc, ρ, hl, i => by
    obtain ⟨ρ1, od, ρ2, e1, e2, p, i2⟩ := h ds.length d ρ i
    have hl' : acc.length + (ds.length + 1) ≤ sizeLine := hl
    obtain ⟨out, ρ', e3, i3, h3, l3⟩ := cLoop_left h ds (acc ++ [od.fz]) (wipeE ρ2 vs) (by simp; omega) i2
    refine ⟨od.fz :: out, ρ', ?_, i3, by intro x hx; rcases List.mem_cons.mp hx with rfl | hx; exact p; exact h3 x hx, by simp [l3]⟩
    show (match tg.put d (wipeE ρ vs) with
    | some ρ1 => match bYes ρ1 with
      | .ok true ρ2 => match e ρ2 with
        | .ok od ρ3 => if acc.length < sizeLine then cLoop tg vs bYes e ds (acc ++ [od.fz]) (wipeE ρ3 vs) else .stuck
        | _ => .stuck
      | .ok false ρ2 => cLoop tg vs bYes e ds acc (wipeE ρ2 vs)
      | _ => .stuck
    | none => .stuck) = _
    rw [e1]
    show (match e ρ1 with
        | .ok od ρ3 => if acc.length < sizeLine then cLoop tg vs bYes e ds (acc ++ [od.fz]) (wipeE ρ3 vs) else .stuck
        | _ => .stuck) = _
    rw [e2]
    show (if acc.length < sizeLine then cLoop tg vs bYes e ds (acc ++ [od.fz]) (wipeE ρ2 vs) else .stuck) = _
    rw [if_pos (by omega), e3]
    simp
theorem mComp_left {it : M (List D)} {tg : Tgt} {vs : List Nat} {e : M OD} {ρ ρ1 : Env} {ds : List D} {I : Nat → Env → Prop} {P : D → Prop} (hi : it ρ = .ok ds ρ1) (hl : ds.length ≤ sizeLine) (h0 : I ds.length (wipeE ρ1 vs))
    (h : ∀ k d ρ, I (k + 1) ρ → ∃ ρ1 od ρ2, tg.put d (wipeE ρ vs) = some ρ1 ∧ e ρ1 = .ok od ρ2 ∧ P od.fz ∧ I k (wipeE ρ2 vs)) : ∃ (out : List D) (ρ' : Env), mComp it tg vs bYes e ρ = .ok (.l (out.map .v)) ρ' ∧ I 0 ρ' ∧ (∀ d ∈ out, P d) ∧ out.length = ds.length := by
  obtain ⟨out, ρ', e1, i1, h1, l1⟩ := cLoop_left h ds [] (wipeE ρ1 vs) (by simpa using hl) h0
  refine ⟨out, ρ', ?_, i1, h1, l1⟩
  rw [mComp_e, hi, Out.bind_ok, e1, Out.bind_ok]
  rfl
theorem natCast_0 : ((0 : Nat) : Int) = 0 := nr rfl
theorem natCast_1 : ((1 : Nat) : Int) = 1 := nr rfl
theorem natCast_2 : ((2 : Nat) : Int) = 2 := nr rfl
theorem natCast_3 : ((3 : Nat) : Int) = 3 := nr rfl
theorem natCast_4 : ((4 : Nat) : Int) = 4 := nr rfl
theorem natCast_5 : ((5 : Nat) : Int) = 5 := nr rfl
theorem natCast_6 : ((6 : Nat) : Int) = 6 := nr rfl
theorem natCast_7 : ((7 : Nat) : Int) = 7 := nr rfl
theorem natCast_8 : ((8 : Nat) : Int) = 8 := nr rfl
theorem natCast_9 : ((9 : Nat) : Int) = 9 := nr rfl
theorem natCast_10 : ((10 : Nat) : Int) = 10 := nr rfl
theorem natCast_11 : ((11 : Nat) : Int) = 11 := nr rfl
theorem natCast_12 : ((12 : Nat) : Int) = 12 := nr rfl
theorem natCast_13 : ((13 : Nat) : Int) = 13 := nr rfl
theorem natCast_14 : ((14 : Nat) : Int) = 14 := nr rfl
theorem natCast_15 : ((15 : Nat) : Int) = 15 := nr rfl
theorem natCast_16 : ((16 : Nat) : Int) = 16 := nr rfl
theorem natCast_17 : ((17 : Nat) : Int) = 17 := nr rfl
theorem natCast_18 : ((18 : Nat) : Int) = 18 := nr rfl
theorem natCast_19 : ((19 : Nat) : Int) = 19 := nr rfl
theorem natCast_20 : ((20 : Nat) : Int) = 20 := nr rfl
theorem natCast_21 : ((21 : Nat) : Int) = 21 := nr rfl
theorem natCast_22 : ((22 : Nat) : Int) = 22 := nr rfl
theorem natCast_23 : ((23 : Nat) : Int) = 23 := nr rfl
theorem natCast_24 : ((24 : Nat) : Int) = 24 := nr rfl
theorem natCast_25 : ((25 : Nat) : Int) = 25 := nr rfl
theorem natCast_26 : ((26 : Nat) : Int) = 26 := nr rfl
theorem natCast_27 : ((27 : Nat) : Int) = 27 := nr rfl
theorem natCast_28 : ((28 : Nat) : Int) = 28 := nr rfl
theorem natCast_29 : ((29 : Nat) : Int) = 29 := nr rfl
theorem natCast_30 : ((30 : Nat) : Int) = 30 := nr rfl
/-- a loop that may return -/
theorem for_ret {α : Type} {tg : Tgt} {f : SM} (fd : α → D) (t : α → Bool) (r : OD) (I : Env → Prop) : ∀ (xs : List α), (∀ x ∈ xs, ∀ ρ, I ρ → ∃ ρ1 ρ2, tg.put (fd x) ρ = some ρ1 ∧ f ρ1 = .ok (if t x = true then .nx else .rt r) ρ2 ∧ I ρ2) → ∀ ρ, I ρ → ∃ ρ', zFor tg f (xs.map fd) ρ = .ok (if xs.all t = true then .nx else .rt r) ρ' ∧ I ρ'
  | [], _, ρ, i => ⟨ρ, by simp [zFor_nil], i⟩
  | x :: xs, h, ρ, i => by
    obtain ⟨ρ1, ρ2, e1, e2, i2⟩ := h x List.mem_cons_self ρ i
    cases ht : t x with
    | false =>
      refine ⟨ρ2, ?_, i2⟩
      rw [List.map_cons, zFor_cons, e1, forS_some, e2, ht]
      simp [ht]
    | true =>
      obtain ⟨ρ', e3, i3⟩ := for_ret fd t r I xs (fun y hy => h y (List.mem_cons_of_mem _ hy)) ρ2 i2
      refine ⟨ρ', ?_, i3⟩
      rw [List.map_cons, zFor_cons, e1, forS_some, e2, ht]
      simp only [if_true, Out.bind_ok, zLoop_nx, e3, List.all_cons, ht, Bool.true_and]
theorem opIx_lst_get {ds : List D} {i : Nat} {d : D} (h : ds[i]? = some d) : opIx [.lst ds, .int i] = some (.v d) := by rw [opIx_lst, atI_ofNat, h]; rfl
theorem opIx_tup_get {ds : List D} {i : Nat} {d : D} (h : ds[i]? = some d) : opIx [.tup ds, .int i] = some (.v d) := by rw [opIx_tup, atI_ofNat, h]; rfl
theorem opIx_rol_get {ds : List D} {i : Nat} {d : D} (h : ds[i]? = some d) : opIx [.rol ds, .int i] = some (.v d) := by rw [opIx_rol, atI_ofNat, h]; rfl
theorem rngD_map (n : Nat) : rngD 0 n = (List.range n).map fun (k : Nat) => D.int (k : Int) := by
  unfold rngD
  exact List.map_congr_left fun k _ => by simp
end Vs
namespace VsEv
open Vs PySem L2
end VsEv

/-! VsZ: truth of values. -/
namespace Vs
open PySem L2 PySem.Spec PyProof.Rows
section
variable {X : Cx} {G : Gx} {W : WX} {F H : Hp} {k : Nat} {bb : Bool} {e a : Expr} {oa : Opd} {pos : Pos}
theorem rn_tru (hG : G.K = X.K) : RN G (RV1 fun x H Q => ∃ k, TruV X.K x H k ∧ Q (.bl k) H) opTru := rn_s fun F H xs vs z Q le hr ez k => by
  unfold dTru at ez
  split at ez
  · cases ez
    obtain ⟨v, rfl, h⟩ := hr.one
    have := repB_non h
    subst this
    exact ⟨false, rfl, k _ (by simp only [Rep])⟩
  · rename_i b
    cases ez
    obtain ⟨v, rfl, h⟩ := hr.one
    simp only [RepB, Rep] at h
    subst h
    exact ⟨b, rfl, k _ (by simp only [Rep])⟩
  · rename_i i
    cases ez
    obtain ⟨v, rfl, h⟩ := hr.one
    have := repB_int h
    subst this
    exact ⟨_, rfl, k _ (by simp only [Rep])⟩
  · rename_i s
    split at ez
    · rename_i hs
      cases ez
      obtain ⟨v, rfl, h⟩ := hr.one
      have := repB_str h
      subst this
      refine ⟨_, ⟨hs, rfl⟩, k _ ?_⟩
      simp only [Rep]
      congr 1
      congr 1
      cases s with | mk cps => ?_
      show (((cps.size : Nat) : Int) != 0) = (!cps.isEmpty)
      obtain ⟨l⟩ := cps
      cases l <;> rfl
    · cases ez
  · rename_i ds
    cases ez
    obtain ⟨v, rfl, h⟩ := hr.one
    obtain ⟨p, us, rfl, h1, h2⟩ := h.seq le (ds := ds) rfl
    rw [hG] at h1
    have e1 : us.isEmpty = ds.isEmpty := by have := h2.len; cases us <;> cases ds <;> simp_all
    refine ⟨!ds.isEmpty, ?_, k _ (by simp only [Rep])⟩
    rcases h1 with h1 | h1
    · exact .inl ⟨us, h1, by rw [e1]⟩
    · exact .inr (.inl ⟨us, h1, by rw [e1]⟩)
  · rename_i ds
    cases ez
    obtain ⟨v, rfl, h⟩ := hr.one
    obtain ⟨p, us, rfl, h1, h2⟩ := h.seq le (ds := ds) rfl
    rw [hG] at h1
    have e1 : us.isEmpty = ds.isEmpty := by have := h2.len; cases us <;> cases ds <;> simp_all
    refine ⟨!ds.isEmpty, ?_, k _ (by simp only [Rep])⟩
    rcases h1 with h1 | h1
    · exact .inl ⟨us, h1, by rw [e1]⟩
    · exact .inr (.inl ⟨us, h1, by rw [e1]⟩)
  · rename_i ds
    cases ez
    obtain ⟨v, rfl, h⟩ := hr.one
    obtain ⟨p, us, rfl, h1, h2⟩ := h.seq le (ds := ds) rfl
    rw [hG] at h1
    have e1 : us.isEmpty = ds.isEmpty := by have := h2.len; cases us <;> cases ds <;> simp_all
    refine ⟨!ds.isEmpty, ?_, k _ (by simp only [Rep])⟩
    rcases h1 with h1 | h1
    · exact .inl ⟨us, h1, by rw [e1]⟩
    · exact .inr (.inl ⟨us, h1, by rw [e1]⟩)
  · cases ez
theorem tru_tx (hG : G.K = X.K) {σ : L2.St} {Q : Bool → Hp → Prop} (q : TB G W (pAll [oa]) (asB (mApp opTru [oa])) σ H Q) : tOpd G W oa σ H fun x H' => ∃ k, TruV X.K x H' k ∧ Q k H' := by
  have q1 := app_tx (rn_tru hG) (TX.asB q)
  refine tOpd_mono (show tOpd G W oa σ H fun x H1 => _ from q1) fun v H1 z => ?_
  obtain ⟨k, h1, b, e, h2⟩ := z
  cases e
  exact ⟨k, h1, h2⟩
/-- what is asked for its truth -/
theorem sb_tru (K : Ok X G W k bb) (ha : SO X G W e oa) (he : ∀ whole, isTrue e X.env whole = (do let v ← whole; standAt e.pos; holding [v] (truthy v)) := by intro _; rfl) : SB X G W (pAll [oa]) e (asB (mApp opTru [oa])) :=
  PT.of (pt_truth ha he) fun σ H Q q => tru_tx K.gK q
theorem sv_notT (K : Ok X G W k bb) (ha : SO X G W a oa) : SV X G W (pAll [oa]) (.UnaryOp .Not a pos) (bNot (asB (mApp opTru [oa]))) := PE.of (pe_notT ha) fun σ H Q h => by
  have h1 : TB G W (pAll [oa] && true) (fun ρ => ((asB (mApp opTru [oa])) ρ).bind fun b ρ' => .ok (!b) ρ') σ H fun b H1 => Q (.bl b) H1 := by rw [Bool.and_true]; exact TX.mB h
  have h2 : TB G W (pAll [oa]) (asB (mApp opTru [oa])) σ H fun b H1 => Q (.bl !b) H1 := TB.bind (k := fun b ρ' => .ok (!b) ρ') h1 fun b H1 z => TB.pure z
  exact tru_tx K.gK h2
end
theorem opTru_non : opTru [.non] = some (.v (.bl false)) := nr rfl
theorem opTru_bl {b : Bool} : opTru [.bl b] = some (.v (.bl b)) := nr rfl
theorem opTru_int {i : Int} : opTru [.int i] = some (.v (.bl (i != 0))) := nr rfl
theorem opTru_str {s : Str} (h : s.length ≤ sizeLine) : opTru [.str s] = some (.v (.bl (!s.cps.isEmpty))) := by
  show ((if s.length ≤ sizeLine then some (D.bl (!s.cps.isEmpty)) else none).map OD.v) = _
  rw [if_pos h]; rfl
theorem opTru_tup {ds : List D} : opTru [.tup ds] = some (.v (.bl (!ds.isEmpty))) := nr rfl
theorem opTru_lst {ds : List D} : opTru [.lst ds] = some (.v (.bl (!ds.isEmpty))) := nr rfl
theorem opTru_rol {ds : List D} : opTru [.rol ds] = some (.v (.bl (!ds.isEmpty))) := nr rfl
/-- an owned list of data, seen as data -/
theorem shs_map (ds : List D) : OD.shs (ds.map .v) = some ds := by
  induction ds with
  | nil => rfl
  | cons d ds ih => rw [List.map_cons, shs_cons, ih]; rfl
theorem shs_mapf {α : Type} (f : α → D) (xs : List α) : OD.shs (xs.map fun x => .v (f x)) = some (xs.map f) := by
  have := shs_map (xs.map f)
  rwa [List.map_map] at this
theorem fzs_mapf {α : Type} (f : α → D) (xs : List α) : OD.fzs (xs.map fun x => .v (f x)) = xs.map f := by
  have := fzs_mv (ds := xs.map f)
  rwa [List.map_map] at this
end Vs
namespace VsEv
open Vs PySem L2
end VsEv

/-! VsZ2: lists of owned things. -/
namespace Vs
open PySem L2
/-- as takeAll, what is owned stays so -/
def takeO : List DV → Env → Option (List OD × Env)
  | [], ρ => some ([], ρ)
  | .own od :: ds, ρ => (takeO ds ρ).map fun r => (od :: r.1, r.2)
  | .plc i :: ds, ρ => match ρ[i]? with
    | some (some od) => (takeO ds (ρ.set i none)).map fun r => (od :: r.1, r.2)
    | _ => none
section
variable {G : Gx} {W : WX} {F F' F1 F2 F3 H H' H1 H2 H3 : Hp} {A A' A1 A2 A3 : AS} {ρ ρ' κ : Env} {σ σ' ς : St} {X : Cx} {e : Expr} {es : List Expr} {as : List Opd} {pos : Pos}
theorem takeO_len : ∀ {ds : List DV} {ρ : Env} {z : List OD × Env}, takeO ds ρ = some z → z.1.length = ds.length ∧ z.2.length = ρ.length
  | [], ρ, z, h => by simp only [takeO] at h; cases h; exact ⟨rfl, rfl⟩
  | .own od :: ds, ρ, z, h => by
    simp only [takeO] at h
    cases q : takeO ds ρ with
    | none => rw [q] at h; cases h
    | some y =>
      rw [q] at h; cases h
      have := takeO_len q
      exact ⟨by simp [this.1], this.2⟩
  | .plc j :: ds, ρ, z, h => by
    simp only [takeO] at h
    split at h
    · cases q : takeO ds (ρ.set j none) with
      | none => rw [q] at h; cases h
      | some y =>
        rw [q] at h; cases h
        have := takeO_len q
        exact ⟨by simp [this.1], by simpa using this.2⟩
    · cases h
theorem takeO_run : ∀ {ds : List DV} {ods : List OD} {vs : List V} {F : Hp} {A : AS} {ρ ρ2 : Env} {κ : Env} {ς : St}, Stt G F H (ds.map DV.slot ++ (κ ++ ρ)) (vs.map some ++ (ς ++ σ)) A → ς.length = κ.length → Lnk σ ds vs → takeO ds ρ = some (ods, ρ2) →
    ∃ F' A', Stt G F' H (ods.map some ++ (κ ++ ρ2)) (vs.map some ++ (ς ++ σ)) A' ∧ Go true F H A F' H A'
  | [], ods, vs, F, A, ρ, ρ2, κ, ς, S, hl, l, e => by
    simp only [takeO] at e; cases e
    simp only [Lnk] at l; subst l
    exact ⟨F, A, S, .refl⟩
  | .own od :: ds, ods, vs, F, A, ρ, ρ2, κ, ς, S, hl, l, e => by
    simp only [Lnk] at l
    obtain ⟨v, r, rfl, l⟩ := l
    simp only [takeO] at e
    cases q : takeO ds ρ with
    | none => rw [q] at e; cases e
    | some z =>
      obtain ⟨ods', ρ3⟩ := z
      rw [q] at e; cases e
      have hl0 : (r.map some).length = (ds.map DV.slot).length := by simp [l.len]
      have S1 : Stt G F H (some od :: (ds.map DV.slot ++ (κ ++ ρ))) (some v :: (r.map some ++ (ς ++ σ))) A := S
      have S2 := S1.raise hl0
      obtain ⟨F2, A3, S3, g3⟩ := takeO_run (κ := some od :: κ) (ς := some v :: ς) S2 (by simp [hl]) l q
      have hl2 : (r.map some).length = (ods'.map some).length := by
        have h1 := (takeO_len q).1
        have h4 := l.len
        simp only [List.length_map]
        simp only at h1
        omega
      exact ⟨F2, A3, S3.swap hl2, g3⟩
  | .plc i :: ds, ods, vs, F, A, ρ, ρ2, κ, ς, S, hl, l, e => by
    simp only [Lnk] at l
    obtain ⟨v, r, rfl, lv, l⟩ := l
    simp only [takeO] at e
    split at e
    · rename_i od e0
      cases q : takeO ds (ρ.set i none) with
      | none => rw [q] at e; cases e
      | some z =>
        obtain ⟨ods', ρ3⟩ := z
        rw [q] at e; cases e
        have S0 : Stt G F H (ds.map DV.slot ++ (κ ++ ρ)) (r.map some ++ (ς ++ σ)) A := S.pop_n
        have hl0 : (r.map some).length = (ds.map DV.slot).length := by simp [l.len]
        have ei : (ds.map DV.slot ++ (κ ++ ρ))[(ds.map DV.slot).length + (κ.length + i)]? = some (some od) := getKap (getKap e0)
        obtain ⟨w, A1, A2, h1, h2, h3, c⟩ := S0.sl.at ei
        rw [getSig hl0, getSig hl, lv] at h1
        cases h1
        rw [setKap, setKap] at h3
        have S1 : Stt G F H (some od :: (ds.map DV.slot ++ (κ ++ ρ.set i none))) (some v :: (r.map some ++ (ς ++ σ))) A := ⟨S0.le, by simp only [Sl]; exact ⟨_, _, _, _, rfl, h2, h3, c⟩, S0.fr⟩
        have S2 := S1.raise hl0
        obtain ⟨F2, A3, S3, g3⟩ := takeO_run (κ := some od :: κ) (ς := some v :: ς) S2 (by simp [hl]) l q
        have hl2 : (r.map some).length = (ods'.map some).length := by
          have h1 := (takeO_len q).1
          have h4 := l.len
          simp only [List.length_map]
          simp only at h1
          omega
        exact ⟨F2, A3, S3.swap hl2, g3⟩
    · cases e
end
def mTakeO (as : List Opd) (k : List OD → Option OD) : M OD := fun ρ => if okPl ρ as then (evAll as ρ).bind fun ds ρ' => match takeO ds ρ' with
  | some (ods, ρ2) => match k ods with
    | some od => .ok od ρ2
    | none => .stuck
  | none => .stuck else .stuck
def mLstQ (as : List Opd) : M OD := mTakeO as kLstO
section
variable {G : Gx} {W : WX} {F F' F1 F2 F3 H H' H1 H2 H3 : Hp} {A A' A1 A2 A3 : AS} {ρ ρ' κ : Env} {σ ς : St} {X : Cx} {e : Expr} {es : List Expr} {as : List Opd} {pos : Pos}
theorem takeO_any {k : List OD → Option OD} {Q : VK} {r : List V → Hp → VK → Prop} (h : TX G W (pAll as) (mTakeO as k) σ H Q)
    (hr : ∀ F H ρ κ ς A ods vs od, Stt G F H (ods.map some ++ (κ ++ ρ)) (vs.map some ++ (ς ++ σ)) A → vs.length = ods.length → k ods = some od →
      (∀ F' H' v A', Go true F H A F' H' A' → Stt G F' H' (some od :: (κ ++ ρ)) (some v :: (ς ++ σ)) A' → Q v H') → r vs H Q) : tAll G W as σ H fun vs H1 => r vs H1 Q := by
  obtain ⟨F, ρ, A, κ, ς, S, hl, q⟩ := h
  unfold mTakeO at q
  by_cases ho : okPl ρ as = true
  · rw [if_pos ho] at q
    refine tAll_run S hl (okPl_ok S hl ho) ?_
    cases e1 : evAll as ρ with
    | stuck => rw [e1] at q; exact q
    | exc x ρ' => rw [e1] at q; exact q
    | ok ds ρ' =>
      rw [e1] at q
      simp only [Out.bind_ok] at q
      intro F1 H1 vs A1 g1 S1 l1
      cases e2 : takeO ds ρ' with
      | none => rw [e2] at q; exact q.elim
      | some z =>
        obtain ⟨ods, ρ2⟩ := z
        rw [e2] at q
        simp only at q
        cases e3 : k ods with
        | none => rw [e3] at q; exact q.elim
        | some od =>
          rw [e3] at q
          obtain ⟨F2, A2, S2, g2⟩ := takeO_run S1 hl l1 e2
          have hlv : vs.length = ods.length := by have := (takeO_len e2).1; rw [l1.len]; exact this.symm
          exact hr F2 H1 ρ2 κ ς A2 ods vs od S2 hlv e3 fun F' H' v A' g' S' => q F' H' v A' (((g1.trans g2).trans g').imp fun z => by simp [z]) S'
  · rw [if_neg ho] at q; exact q.elim
theorem sx_lstQ (ha : PA X es (tAll G W as)) : SX X G W (pAll as) (.List es pos) (mLstQ as) := PE.of (pe_lst ha) fun σ H Q q => by
  refine takeO_any (r := fun vs H1 Q => vs.length ≤ sizeLine ∧ ∀ p, H1 p = none → Q (.ref p) (upd H1 p (.lst vs))) q fun F H ρ κ ς A ods vs od S hl ek h => ?_
  unfold kLstO at ek
  split at ek
  · rename_i hz
    cases ek
    refine ⟨by omega, fun p hp => ?_⟩
    obtain ⟨A2, S2, g2⟩ := S.newL hl hp
    exact h _ _ _ A2 g2 S2
  · cases ek
end
theorem mTakeO_e {as : List Opd} {k : List OD → Option OD} {ρ : Env} : mTakeO as k ρ = if okPl ρ as = true then (evAll as ρ).bind fun ds ρ' => match takeO ds ρ' with
    | some r => ofO (k r.1) r.2
    | none => .stuck else .stuck := by
  unfold mTakeO
  split
  · congr 1; funext ds ρ'
    cases takeO ds ρ' with
    | none => rfl
    | some r =>
      simp only [ofO]
      try (cases k r.1 <;> rfl)
  · rfl
theorem mLstQ_e {as : List Opd} {ρ : Env} : mLstQ as ρ = mTakeO as kLstO ρ := nr rfl
def takeQ (x : Option (Option OD)) (ds : List DV) (ρ : Env) (i : Nat) : Option (List OD × Env) := match x with
  | some (some od) => (takeO ds (ρ.set i none)).map fun r => (od :: r.1, r.2)
  | _ => none
theorem takeQ_some {od : OD} {ds : List DV} {ρ : Env} {i : Nat} : takeQ (some (some od)) ds ρ i = (takeO ds (ρ.set i none)).map fun r => (od :: r.1, r.2) := nr rfl
theorem takeO_nil {ρ : Env} : takeO [] ρ = some ([], ρ) := nr rfl
theorem takeO_own {od : OD} {ds : List DV} {ρ : Env} : takeO (.own od :: ds) ρ = (takeO ds ρ).map fun r => (od :: r.1, r.2) := nr rfl
theorem takeO_plc {i : Nat} {ds : List DV} {ρ : Env} : takeO (.plc i :: ds) ρ = takeQ (ρ[i]?) ds ρ i := nr rfl
end Vs
namespace VsEv
open Vs PySem L2
end VsEv

/-! VsZ3: list(..) of texts and dicts, dict(..), sorted(d). -/
namespace Vs
open PySem L2 PySem.Spec PyProof.Rows
section
variable {X : Cx} {G : Gx} {W : WX} {F H : Hp} {k : Nat} {bb : Bool} {e a : Expr} {oa : Opd} {pos : Pos}
theorem CallR.or {f : Value} {r r' : List V → Hp → VK → Prop} (h : CallR X f r) (h' : CallR X f r') : CallR X f (fun xs H Q => r xs H Q ∨ r' xs H Q) := by
  intro pins s σ H xs us Q I rx z
  rcases z with z | z
  · exact h pins s σ H xs us Q I rx z
  · exact h' pins s σ H xs us Q I rx z
theorem call_list_strR (hc : X.calm = true) : CallR X (.type "list") (fun xs H Q => ∃ z : Str, xs = [.str z] ∧ z.length ≤ sizeLine ∧ ∀ l, H l = none → Q (.ref l) (upd H l (.lst (z.cps.toList.map fun c => .str ⟨#[c]⟩)))) := by
  intro pins s σ H xs us Q I r q
  obtain ⟨z, ex, hl, q⟩ := q
  subst ex
  obtain ⟨u, eu, rx⟩ := vals1 r
  subst eu
  obtain ⟨t, rfl⟩ := rx
  refine call_list_str (I.ok.hd hc) z t (fun h' tk acc c' hk hD hacc => ?_) hl
  have hv : Vals (z.cps.toList.map fun c => V.str ⟨#[c]⟩) acc.toList := vals_of_at (by rw [List.length_map, Array.length_toList, Array.length_toList]; exact hacc.1.symm) fun j x v e1 e2 => by
    obtain ⟨c, u, e3, rfl⟩ := hacc.2 j v (by rw [← Array.getElem?_toList]; exact e2)
    rw [List.getElem?_map, Array.getElem?_toList, e3] at e1
    cases e1
    exact ⟨u, rfl⟩
  refine ⟨.ref s.heap.objs.size, upd H s.heap.objs.size (.lst (z.cps.toList.map fun c => V.str ⟨#[c]⟩)), I.laid (t' := tk) hk (Nat.le_refl _)
    (show ObjOk X.prog X.w _ _ _ (.lst (z.cps.toList.map fun c => V.str ⟨#[c]⟩)) from ⟨by rw [List.length_map, Array.length_toList]; exact hl, acc.toList, c', hv, by rw [Array.toArray_toList]; exact hD⟩), rfl, q _ (I.hok.fresh (Nat.le_refl _))⟩
def dListS : List D → Option (List D)
  | [.str s] => if s.length ≤ sizeLine then some (strD s) else none
  | _ => none
def dListK : List D → Option (List D)
  | [.dk ks _] => some (ks.map keyDD)
  | _ => none
def opListA (xs : List D) : Option OD := ((dList xs).map fun ds => OD.l (ds.map .v)).or (((dListS xs).map fun ds => OD.l (ds.map .v)).or ((dListK xs).map fun ds => OD.l (ds.map .v)))
def rListA (K : PySem.W.Frag) : List V → Hp → VK → Prop := fun xs H Q => (∃ p ys, xs = [.ref p] ∧ (SqL K H p ys ∨ SqT K H p ys) ∧ ∀ l, H l = none → Q (.ref l) (upd H l (.lst ys))) ∨
  ((∃ z : Str, xs = [.str z] ∧ z.length ≤ sizeLine ∧ ∀ l, H l = none → Q (.ref l) (upd H l (.lst (z.cps.toList.map fun c => .str ⟨#[c]⟩)))) ∨
  (∃ (a : Addr) (kvs : List (L2.Key × V)), xs = [.ref a] ∧ Rd H a (.dK kvs) ∧ ∀ p, H p = none → Q (.ref p) (upd H p (.lst (kvs.map fun kv => kV kv.1)))))
theorem call_listA (hc : X.calm = true) : CallR X (.type "list") (rListA X.K) := call_list_of.or ((call_list_strR hc).or (call_listD hc))
theorem rn_listA (hG : G.K = X.K) : RN G (rListA X.K) opListA := by
  have h2 : RN G (fun xs H Q => ∃ z : Str, xs = [.str z] ∧ z.length ≤ sizeLine ∧ ∀ l, H l = none → Q (.ref l) (upd H l (.lst (z.cps.toList.map fun c => .str ⟨#[c]⟩)))) (fun xs => (dListS xs).map fun ds => OD.l (ds.map .v)) := rn_l fun F H xs vs z Q le hr ez k => by
    unfold dListS at ez
    split at ez
    · rename_i s
      split at ez
      · rename_i hs
        cases ez
        obtain ⟨v, rfl, h⟩ := hr.one
        have := repB_str h
        subst this
        refine ⟨s, rfl, hs, fun p hp => k p _ hp ?_⟩
        unfold strD
        exact Reps.map fun c _ => by simp only [Rep]
      · cases ez
    · cases ez
  have h3 : RN G (fun xs H Q => ∃ (a : Addr) (kvs : List (L2.Key × V)), xs = [.ref a] ∧ Rd H a (.dK kvs) ∧ ∀ p, H p = none → Q (.ref p) (upd H p (.lst (kvs.map fun kv => kV kv.1)))) (fun xs => (dListK xs).map fun ds => OD.l (ds.map .v)) := rn_l fun F H xs vs z Q le hr ez k => by
    unfold dListK at ez
    split at ez
    · rename_i ks ds
      cases ez
      obtain ⟨v, rfl, h⟩ := hr.one
      simp only [RepB] at h
      obtain ⟨a, kvs, rfl, hd, hk, _⟩ := h
      refine ⟨a, kvs, rfl, hd, fun p hp => k p _ hp ?_⟩
      rw [← hk, List.map_map]
      exact Reps.map fun c _ => keyDD_rep c.1
    · cases ez
  exact RN.or (rn_list hG) (RN.or h2 h3)
end
theorem opListA_lst {ds : List D} : opListA [.lst ds] = some (.l (ds.map .v)) := nr rfl
theorem opListA_rol {ds : List D} : opListA [.rol ds] = some (.l (ds.map .v)) := nr rfl
theorem opListA_tup {ds : List D} : opListA [.tup ds] = some (.l (ds.map .v)) := nr rfl
theorem opListA_str {s : Str} (h : s.length ≤ sizeLine) : opListA [.str s] = some (.l ((s.cps.toList.map fun c => D.str ⟨#[c]⟩).map .v)) := by
  show (((if s.length ≤ sizeLine then some (strD s) else none).map fun ds => OD.l (ds.map .v)).or none) = _
  rw [if_pos h]; rfl
theorem opListA_dk {ks : List L2.Key} {ds : List D} : opListA [.dk ks ds] = some (.l ((ks.map keyDD).map .v)) := nr rfl
end Vs
namespace VsEv
open Vs PySem L2
end VsEv

/-! VsC1: classes: methods, constructors, fields. -/
namespace Vs
open PySem L2 PySem.Spec PyProof.Rows
/-- a method of a class -/
structure CalM (P : Program) (w : World) (G : Gx) (base : Heap) (k : Nat) (c m : Str) (ps : List Str) (f : FnM) : Prop where
  ex : ∃ C fa fd, G.mg c = some (.ref C) ∧ Cls G.K C ∧ Meth G.K C m fa ∧ Binds G.K fd ps [] ∧ FnOk P w G.K G.mg base (L2.CX P w) k fa fd ps (spOf G f)
/-- a class that is called -/
structure CalI (P : Program) (w : World) (G : Gx) (base : Heap) (k : Nat) (c : Str) (ps : List Str) (f : FnM) : Prop where
  ex : ∃ C fa fd, G.mg c = some (.ref C) ∧ Mk G.K C fa ∧ Binds G.K fd ps [] ∧ FnOk P w G.K G.mg base (L2.CX P w) k fa fd ps (spOf G f)
def doMake (c : Str) (f : FnM) (ds : List DV) (ρ : Vs.Env) : Out OD := match takeAll ds ρ with
  | some (ods, ρ2) => match f (.o c [] [] :: ods) with
    | .ok (.v .non) (some od :: bk) => .ok od (putBack ds bk ρ2)
    | .exc x (_ :: bk) => .exc x (putBack ds bk ρ2)
    | _ => .stuck
  | none => .stuck
def mMake (c : Str) (f : FnM) (as : List Opd) : M OD := fun ρ => if okPl ρ as then (evAll as ρ).bind (doMake c f) else .stuck
section
variable {fa : List He.Fa} {fn : List He.DefD} {cs : List (Str × D)} {xf : List XF} {G : Gx}
theorem Hd.cls (h : Hd fa fn cs xf G) (i : Nat) {x : Str} (e : fa[i]? = some (.cls x) := by rfl) : Cls G.K (He.ga G.K x) := He.cls_ok (h.says.fact i e)
theorem Hd.noat (h : Hd fa fn cs xf G) (i : Nat) {x f : Str} (e : fa[i]? = some (.noat x f) := by rfl) : NoAttr G.K (He.ga G.K x) f := He.noat_ok (h.says.fact i e)
theorem Hd.meth (h : Hd fa fn cs xf G) (i : Nat) {x m : Str} (e : fa[i]? = some (.meth x m) := by rfl) : Meth G.K (He.ga G.K x) m (He.ma G.K (He.ga G.K x) m) := He.meth_ok (h.says.fact i e)
theorem Hd.mkr (h : Hd fa fn cs xf G) (i : Nat) {x : Str} (e : fa[i]? = some (.mkr x) := by rfl) : Mk G.K (He.ga G.K x) (He.ma G.K (He.ga G.K x) "__init__") := He.mkr_ok (h.says.fact i e)
end
section
variable {G : Gx} {W : WX} {F F' F1 F2 F3 H H' H1 H2 H3 : Hp} {A A' A1 A2 A3 : AS} {ρ ρ' κ : Vs.Env} {σ σ' ς : L2.St} {X : Cx} {k j : Nat} {C : Addr} {ps : List Str} {f : FnM} {x m c : Str} {p pos apos : Pos} {e o : Expr} {es : List Expr} {as : List Opd} {r : Opd}
theorem calm_ok {P : Program} {w : World} {base : Heap} {qual y : Str} {params : Arguments} {body : List Stmt} {scope : Scope} {fd : FuncData} {N : List Str} {mask : List Bool} {mm : SM} (Fn : FunD G.K y qual params body scope [] [] (He.ma G.K (He.ga G.K c) m) fd)
    (hx : G.mg c = some (.ref (He.ga G.K c))) (cl : Cls G.K (He.ga G.K c)) (mt : Meth G.K (He.ga G.K c) m (He.ma G.K (He.ga G.K c) m)) (S : FnScope N ps scope)
    (hm : mask.length = ps.length) (hbi : ∀ (kV doc pm : Value) (an : Option Addr) (cdv ct : Value) (us : List Value), us.length = ps.length → bindArgs (PySem.W.fnOf y qual params body scope .none kV doc pm an cdv ct) ⟨us, []⟩ = pure (ps.zip us))
    (hb : ∀ (cdv : Value) (A : Around) (outer : List PySem.Env) (s : Shared) (H : Hp) (E : XK), Room k (A.deeper (PyProof.Rows.envOfC qual scope s.heap.objs.size (He.ma G.K (He.ga G.K c) m) cdv)) →
      SSs (cxOf (L2.CX P w) P w G.K G.mg base N qual scope (He.ma G.K (He.ga G.K c) m) cdv A outer s H E) G (fun cls d _ H => E cls d H) (pnOf mask 0) body mm) :
    CalM P w G base (k + 1) c m ps (defM N.length mask mm) := ⟨_, _, fd, hx, cl, mt, Fn.bindsN hbi, fnv_ok Fn S hm hb⟩
theorem CalM.mono {P : Program} {w : World} {base : Heap} (c0 : CalM P w G base j c m ps f) (h : j ≤ k) : CalM P w G base k c m ps f := by
  obtain ⟨C, fa, fd, a, b, d, e, g⟩ := c0.ex
  exact ⟨C, fa, fd, a, b, d, e, g.mono h⟩
/-- its __init__ makes instances -/
theorem CalM.made {P : Program} {w : World} {base : Heap} (c0 : CalM P w G base j c "__init__" ps f) (hx : G.mg c = some (.ref (He.ga G.K c))) (mk : Mk G.K (He.ga G.K c) (He.ma G.K (He.ga G.K c) "__init__")) : CalI P w G base j c ps f := by
  obtain ⟨C, fa, fd, a, b, d, e, g⟩ := c0.ex
  rw [hx] at a
  cases a
  have h1 := d.at_
  rw [mk.init] at h1
  cases h1
  exact ⟨_, _, fd, hx, mk, e, g⟩
theorem e_meth (K : Ok X G W k true) (c0 : CalM X.prog X.w G X.base j c m ps f) (he : SO X G W o r) (ha : PA X (e :: es) (tAll G W as)) (hj : j ≤ k := by decide)
    (hst : starEach (e :: es) X.env = (false, eval e X.env) :: starEach es X.env := by rfl) (hpl : (backTo pos (starEach es X.env)).any (·.1) = false := by rfl) {pl : Sem Bool}
    (ht : eval (.Call (.Attribute o m apos) (e :: es) [] pos) X.env = (eval o X.env >>= fun ov => standAt apos.atName >>= fun _ => holding [ov] (getMethod ov m pl) >>= fun z => callWith pos z.1 z.2 (backTo pos (starEach (e :: es) X.env)) (backToKw pos (keywordEach [] X.env))) := by rfl) :
    SX X G W (pAll (r :: as) && noPlc (r :: as)) (.Call (.Attribute o m apos) (e :: es) [] pos) (mMeth c m f r as) := by
  obtain ⟨C, fa, fd, a, b, d, bi, g⟩ := c0.ex
  have hK := K.gK
  have hM := K.gm
  rw [hK, hM] at g
  rw [hK] at b d bi
  exact sx_meth he a b d (g.mono hj) K.r bi K.t ha hst hpl ht
theorem e_meth0 (K : Ok X G W k true) (c0 : CalM X.prog X.w G X.base j c m ps f) (he : SO X G W o r) (hj : j ≤ k := by decide) {pl : Sem Bool}
    (ht : eval (.Call (.Attribute o m apos) [] [] pos) X.env = (eval o X.env >>= fun ov => standAt apos.atName >>= fun _ => holding [ov] (getMethod ov m pl) >>= fun z => callWith pos z.1 z.2 (backTo pos (starEach [] X.env)) (backToKw pos (keywordEach [] X.env))) := by rfl) :
    SX X G W (pAll [r] && noPlc [r]) (.Call (.Attribute o m apos) [] [] pos) (mMeth c m f r []) := by
  obtain ⟨C, fa, fd, a, b, d, bi, g⟩ := c0.ex
  have hK := K.gK
  have hM := K.gm
  rw [hK, hM] at g
  rw [hK] at b d bi
  exact sx_meth0 he a b d (g.mono hj) K.r bi K.t ht
/-! ### constructors -/
theorem make_run {q : Bool} {E : XK} {ds : List DV} {vs : List V} {Q : VK} {F0 H0 : Hp} {A0 : AS} {y dx : Addr} (hC : G.mg c = some (.ref C)) (g0 : Go q F0 H0 A0 F H A)
    (S : Stt G F H (ds.map DV.slot ++ (κ ++ ρ)) (vs.map some ++ (ς ++ σ)) A) (hl : ς.length = κ.length) (l : Lnk σ ds vs) (hv : q = true → ∀ z, takeAll ds ρ = some z → allV z.1)
    (hE : ∀ cls d H, W cls d σ H → E cls d H) (hy : H y = none) (hdx : H dx = none) (hne : dx ≠ y)
    (h : Pst G W q (doMake c f ds ρ) F0 H0 A0 κ ς σ fun od ρ' => ∀ F' H' v A', Go q F0 H0 A0 F' H' A' → Stt G F' H' (some od :: (κ ++ ρ')) (some v :: (ς ++ σ)) A' → Q v H') :
    spOf G f (.ref y :: vs) (upd (upd H dx (.own y)) y (.ins C dx [])) (fun v H2 => v = .non ∧ Q (.ref y) H2) E := by
  unfold doMake at h
  cases t : takeAll ds ρ with
  | none => rw [t] at h; exact h.elim
  | some z =>
    obtain ⟨ods, ρ2⟩ := z
    rw [t] at h
    simp only at h
    obtain ⟨F1, A1, S1, g1⟩ := take_run S hl l t
    have hlo : (vs.map some).length = (ods.map some).length := by
      have := (takeAll_len t).1
      simp only [List.length_map]
      rw [l.len]
      exact this.symm
    obtain ⟨B1, B2, s1, s2, cc⟩ := S1.sl.app hlo
    -- the new instance
    have hF1y : F1 y = none := by
      cases w : F1 y with
      | none => rfl
      | some u => rw [S1.le y u w] at hy; cases hy
    have hup : ∀ a o, H a = some o → upd (upd H dx (.own y)) y (.ins C dx []) a = some o := fun a o e => by
      have h1 : a ≠ y := fun z => by rw [z, hy] at e; cases e
      have h2 : a ≠ dx := fun z => by rw [z, hdx] at e; cases e
      rw [upd_ne h1, upd_ne h2]; exact e
    have hold : ∀ a, A1 a → ∃ o, H a = some o := fun a z => S1.sl.there a z
    have hB1y : ¬ B1 y := fun z => by obtain ⟨o, e⟩ := hold y (cc.l z); rw [hy] at e; cases e
    have hB2y : ¬ B2 y := fun z => by obtain ⟨o, e⟩ := hold y (cc.r z); rw [hy] at e; cases e
    have hnew : OT G F1 (upd (upd H dx (.own y)) y (.ins C dx [])) (.o c [] []) (.ref y) fun a => a = y := by
      simp only [OT]
      exact ⟨y, C, dx, [], fun _ => False, rfl, hC, upd_same, rfl, by simp [OTs], .nil_r fun _ z => z⟩
    have keepU : ∀ a, A1 a → upd (upd H dx (.own y)) y (.ins C dx []) a = H a := fun a z => by
      obtain ⟨o, e⟩ := hold a z
      rw [hup a o e, e]
    refine ⟨F1, .o c [] [] :: ods, fun a => a = y ∨ B1 a, ⟨fun a o e => hup a o (S1.le a o e), ?_, fun a z => z.elim (fun z => z ▸ hF1y) fun z => S1.fr a (cc.l z)⟩, ?_⟩
    · simp only [List.map_cons, Sl]
      exact ⟨_, _, _, _, rfl, hnew, s1.mono (.refl _) fun a z => keepU a (cc.l z), .mk' _ _ fun a z w => hB1y (z ▸ w)⟩
    -- from the arguments to the whole
    have step : ∀ {F' H' : Hp} {Y : AS}, Go false F1 (upd (upd H dx (.own y)) y (.ins C dx [])) (fun a => a = y ∨ B1 a) F' H' Y → Le F' H' → (∀ a, Y a → F' a = none) → Sl G F' H' (κ ++ ρ2) (ς ++ σ) B2 ∧ (∀ a, Y a → ¬ B2 a) ∧ (∀ a, B2 a → F' a = none) ∧ Go q F0 H0 A0 F' H' (fun a => Y a ∨ B2 a) := by
      intro F' H' Y g le fr
      have kp : ∀ a, B2 a → ∃ o, H a = some o ∧ H' a = some o := fun a z => by
        obtain ⟨o, e⟩ := s2.there a z
        exact ⟨o, e, g.keep a o (hup a o e) fun w => w.2.elim (fun w => hB2y (w ▸ z)) fun w => cc.2 a w z⟩
      have nonew : ∀ a, upd (upd H dx (.own y)) y (.ins C dx []) a = none → H a = none := fun a e => by
        cases w : H a with
        | none => rfl
        | some o => rw [hup a o w] at e; cases e
      refine ⟨s2.mono g.le fun a z => ?_, fun a w z => ?_, fun a z => ?_, ?_⟩
      · obtain ⟨o, e1, e2⟩ := kp a z
        rw [e1, e2]
      · obtain ⟨o, e1, e2⟩ := kp a z
        rcases g.sub a w with b | b
        · exact b.elim (fun b => hB2y (b ▸ z)) fun b => cc.2 a b z
        · rw [nonew a b] at e1; cases e1
      · obtain ⟨o, e1, e2⟩ := kp a z
        cases w : F' a with
        | none => rfl
        | some o' =>
          rcases g.nf a o' w with b | b | b
          · rw [S1.fr a (cc.r z)] at b; cases b
          · exact (b.elim (fun b => hB2y (b ▸ z)) fun b => cc.2 a b z).elim
          · rw [nonew a b] at e1; cases e1
      · refine ⟨g0.le.trans (g1.le.trans g.le), fun a o e n => ?_, fun a z => ?_, fun a o z => ?_⟩
        · have e1 : H a = some o := g0.keep a o e n
          refine g.keep a o (hup a o e1) fun w => ?_
          rcases w.2 with w | w
          · rw [w, hy] at e1; cases e1
          cases hp : q with
          | true => exact allV_none (hv hp _ t) s1 a w
          | false =>
            have : A a := by
              rcases g1.sub a (cc.l w) with b | b
              · exact b
              · rw [e1] at b; cases b
            rcases g0.sub a this with b | b
            · exact n ⟨hp, b⟩
            · rw [e] at b; cases b
        · refine g0.back (g1.back (z.elim (fun w => (g.sub a w).elim (fun b => ?_) fun b => .inr (nonew a b)) fun b => .inl (cc.r b)))
          exact b.elim (fun b => .inr (b ▸ hy)) fun b => .inl (cc.l b)
        · rcases g.nf a o z with b | b | b
          · rcases g1.nf a o b with b | b
            · exact g0.nf a o b
            · exact .inr (g0.back b)
          · exact .inr (g0.back (g1.back (b.elim (fun b => .inr (b ▸ hy)) fun b => .inl (cc.l b))))
          · exact .inr (g0.back (g1.back (.inr (nonew a b))))
    cases ef : f (.o c [] [] :: ods) with
    | stuck => rw [ef] at h; exact h.elim
    | ok od bk =>
      rw [ef] at h
      split at h
      · rename_i od' bk' e1
        cases e1
        intro F' H' v A' g S'
        obtain ⟨hrv, S''⟩ := Stt.pop_v (show Stt G F' H' (some (.v .non) :: (some od' :: bk')) (some v :: (some (.ref y) :: vs.map some)) A' from S')
        simp only [Rep] at hrv
        refine ⟨hrv, ?_⟩
        obtain ⟨B, A3, h1, S3, c3, hB⟩ := S''.pop
        obtain ⟨q1, q2, q3, q4⟩ := step g S'.le S'.fr
        have hbl : bk'.length = vs.length := by have := S3.sl.len; simpa using this.symm
        have S4 : Stt G F' H' (bk' ++ (κ ++ ρ2)) (vs.map some ++ (ς ++ σ)) fun a => A3 a ∨ B2 a :=
          ⟨S'.le, S3.sl.join q1 (.mk' _ _ fun a w z => q2 a (c3.r w) z), fun a z => z.elim (fun w => S'.fr a (c3.r w)) (q3 a)⟩
        obtain ⟨A5, S5, sub⟩ := put_run (ds := ds) S4 hl hbl l
        obtain ⟨A6, S6, h6⟩ := S5.push h1 fun a b => ⟨hB a b, fun z => (sub a z).elim (c3.2 a b) (q2 a (c3.l b))⟩
        exact h F' H' (.ref y) A6 (q4.less fun a z => ((h6 a).1 z).elim (fun b => .inl (c3.l b)) fun z => (sub a z).elim (fun w => .inl (c3.r w)) .inr) S6
      · rename_i e1
        cases e1
      · exact h.elim
    | exc xv bk =>
      rw [ef] at h
      split at h
      · rename_i e1
        cases e1
      · rename_i b0 bk' e1
        cases e1
        intro F' H' A' cls d g S' xr
        obtain ⟨q1, q2, q3, q4⟩ := step g S'.le S'.fr
        obtain ⟨A3, S3, sub3⟩ := Stt.dropTop (show Stt G F' H' (b0 :: bk') (some (.ref y) :: vs.map some) A' from S')
        have hbl : bk'.length = vs.length := by have := S3.sl.len; simpa using this.symm
        have S4 : Stt G F' H' (bk' ++ (κ ++ ρ2)) (vs.map some ++ (ς ++ σ)) fun a => A3 a ∨ B2 a :=
          ⟨S'.le, S3.sl.join q1 (.mk' _ _ fun a w z => q2 a (sub3 a w) z), fun a z => z.elim (fun w => S'.fr a (sub3 a w)) (q3 a)⟩
        obtain ⟨A5, S5, sub⟩ := put_run (ds := ds) S4 hl hbl l
        exact hE cls d H' (h F' H' A5 cls d ((q4.imp fun z => by cases z).less fun a z => (sub a z).elim (fun w => .inl (sub3 a w)) .inr) S5 xr)
      · exact h.elim
theorem makes_run {E : XK} {Q : VK} (hC : G.mg c = some (.ref C)) (hE : ∀ cls d H, W cls d σ H → E cls d H) (q : TX G W (pAll as && noPlc as) (mMake c f as) σ H Q) :
    tAll G W as σ H fun vs H1 => ∀ y dx, H1 y = none → H1 dx = none → dx ≠ y → spOf G f (.ref y :: vs) (upd (upd H1 dx (.own y)) y (.ins C dx [])) (fun v H2 => v = .non ∧ Q (.ref y) H2) E := by
  obtain ⟨F, ρ, A, κ, ς, S, hl, q⟩ := q
  unfold mMake at q
  by_cases ho : okPl ρ as = true
  · rw [if_pos ho] at q
    refine tAll_run S hl (okPl_ok S hl ho) ?_
    cases e1 : evAll as ρ with
    | stuck => rw [e1] at q; exact q
    | exc x ρ' => rw [e1] at q; exact q
    | ok ds ρ' =>
      rw [e1] at q
      intro F1 H1 vs A1 g1 S1 l1 y dx hy hdx hne
      exact make_run (q := pAll as && noPlc as) hC (g1.imp fun z => by simp only [Bool.and_eq_true] at z; exact z.1) S1 hl l1 (fun z y hy => take_allV (by simp only [Bool.and_eq_true] at z; exact z.2) e1 ρ' hy) hE hy hdx hne q
  · rw [if_neg ho] at q; exact q.elim
theorem run_makeS {CX : CXT} {fI : Addr} {fd : FuncData} {sp : Sp} {E : L2.St → XK} {pins : List (Addr × Obj)} {H : Hp} {s : Shared} {Q : VK} {us : List Value} {vs : List V} (M : Mk X.K C fI) (F : FnOk X.prog X.w X.K X.mg X.base CX k fI fd ps sp) (hr : Room (k + 1) X.A) (hb : Binds X.K fd ps [])
    (hx : PassesAt CX X σ (E σ)) (I : Inv X pins σ H s) (r : Vals vs us)
    (h : ∀ x dx, H x = none → H dx = none → dx ≠ x → sp (.ref x :: vs) (upd (upd H dx (.own x)) x (.ins C dx [])) (fun v H2 => v = .non ∧ Q (.ref x) H2) (E σ)) :
    wpAny (model X.prog X.w) X.A (call (.ref C) us) (EP X pins σ Q) X.xe s := by
  have hq := h (s.heap.objs.size + 1) s.heap.objs.size (I.hok.fresh (Nat.le_succ _)) (I.hok.fresh (Nat.le_refl _)) (Nat.ne_of_lt (Nat.lt_succ_self _))
  have I2 := Inv.made (C := C) I
  have r2 : Vals (V.ref (s.heap.objs.size + 1) :: vs) (Value.ref (s.heap.objs.size + 1) :: us) := .cons rfl r
  have hl : (Value.ref (s.heap.objs.size + 1) :: us).length = ps.length := by
    have e := r2.length
    rw [F.len _ _ _ _ hq] at e
    exact e.symm
  have b := hb _ (Value.ref (s.heap.objs.size + 1) :: us) I2.kIn (by rw [List.append_nil]; exact hl)
  rw [List.append_nil] at b
  refine wpAny_call (make_map (f := fI) I.kIn M.makes M.init (beq_iff_eq.mp M.fn) (codeAny_mono (F.run _ X.stack _ _ ⟨Value.ref (s.heap.objs.size + 1) :: us, []⟩ (Value.ref (s.heap.objs.size + 1) :: us) _ _ (E σ) (hr.make C us [])
    (I2.env0.make C us []) b r2 hq) fun r s' hq' => ?_))
  cases r with
  | error e => exact hx pins _ _ e s' I2 hq'
  | ok fl =>
    cases fl with
    | ret u =>
      obtain ⟨v, H', I3, rv, ev, q3⟩ := I2.after hq'
      subst ev
      exact ⟨rv, ⟨V.ref (s.heap.objs.size + 1), H', I3, rfl, q3⟩⟩
    | next => exact False.elim hq'
    | brk => exact False.elim hq'
    | cont => exact False.elim hq'
theorem e_make (K : Ok X G W k true) (c0 : CalI X.prog X.w G X.base j c ps f) (ha : PA X (e :: es) (tAll G W as)) (hj : j + 1 ≤ k := by decide) (hg : Gl X c := by rfl) (hdb : (c == ("__debug__" : Str)) = false := by decide)
    (he : starEach (e :: es) X.env = (false, eval e X.env) :: starEach es X.env := by rfl) (hpl : (backTo pos (starEach es X.env)).any (·.1) = false := by rfl) :
    SX X G W (pAll as && noPlc as) (.Call (.Name c p) (e :: es) [] pos) (mMake c f as) := by
  obtain ⟨C, fa, fd, a, mk, bi, g⟩ := c0.ex
  have hK := K.gK
  have hM := K.gm
  have a' := a
  rw [hK, hM] at g
  rw [hM] at a'
  rw [hK] at mk bi
  constructor
  intro pins s σ H Q I h
  refine wpAny_Call_Name_kw (ld_glob I hg a' ?_ hdb)
  refine PySem.W.callWith_K (h₀ := X.base) I.ok.mod.kin mk.kp (thn (ha.run pos pins s σ H _ I (makes_run a (fun _ _ _ z => z) h)) fun us s1 ⟨vs, H1, I1, r, q⟩ => ⟨I1.kIn, ?_⟩) he hpl
  exact run_makeS mk g (K.r.mono hj) bi (passAt K.t σ) I1 r q
theorem e_make0 (K : Ok X G W k true) (c0 : CalI X.prog X.w G X.base j c ps f) (hj : j + 1 ≤ k := by decide) (hg : Gl X c := by rfl) (hdb : (c == ("__debug__" : Str)) = false := by decide) :
    SX X G W true (.Call (.Name c p) [] [] pos) (mMake c f []) := by
  obtain ⟨C, fa, fd, a, mk, bi, g⟩ := c0.ex
  have hK := K.gK
  have hM := K.gm
  have a' := a
  rw [hK, hM] at g
  rw [hM] at a'
  rw [hK] at mk bi
  constructor
  intro pins s σ H Q I h
  refine wpAny_Call_Name_kw (ld_glob I hg a' ?_ hdb)
  exact PySem.W.callWith_K0 I.kIn mk.kp (run_makeS (us := []) mk g (K.r.mono hj) bi (passAt K.t σ) I .nil (makes_run (as := []) a (fun _ _ _ z => z) h))
end
end Vs

/-! VsC2: augmented assignments, tuple targets. -/
namespace Vs
open PySem L2 PySem.Spec PyProof.Rows
def fAdd : Int → Int → Int := fun i j => i + j
def fSub : Int → Int → Int := fun i j => i - j
/-- name op= e, whole numbers -/
def zAug (i : Nat) (g : Int → Int → Int) (fv : M OD) : SM := fun ρ => match ρ[i]?.join with
  | some (.v (.int a)) => (fv ρ).bind fun od ρ1 => match od with
    | .v (.int b) => if i < ρ1.length then .ok .nx (ρ1.set i (some (.v (.int (g a b))))) else .stuck
    | _ => .stuck
  | _ => .stuck
/-- name[n] op= e, whole numbers in a list -/
def zAugIx (i : Nat) (n : Int) (g : Int → Int → Int) (fv : M OD) : SM := fun ρ => match ρ[i]?.join with
  | some (.l xs) => match (ixN xs.length n).bind fun j => xs[j]? with
    | some (.v (.int a)) => (fv ρ).bind fun od ρ1 => match od, ρ1[i]?.join with
      | .v (.int b), some od0 => match putIx od0 (.int n) (.v (.int (g a b))) with
        | some od' => .ok .nx (ρ1.set i (some od'))
        | none => .stuck
      | _, _ => .stuck
    | _ => .stuck
  | _ => .stuck
/-- part.f op= e, whole numbers -/
def zAugF (i : Nat) (π : List PStep) (c f : Str) (g : Int → Int → Int) (fv : M OD) : SM := fun ρ => match slotAt ρ i (π ++ [.fld c f]) with
  | some (.v (.int a)) => (fv ρ).bind fun od ρ1 => match od with
    | .v (.int b) => zSetF i π c f (fun ρ => .ok (.v (.int (g a b))) ρ) ρ1
    | _ => .stuck
  | _ => .stuck
section
variable {G : Gx} {W : WX} {pn : List Nat} {F F' F1 F2 F3 H H' H1 H2 H3 : Hp} {A A' A1 A2 A3 B : AS} {ρ ρ' κ : Vs.Env} {σ ς : L2.St} {X : Cx} {st : Stmt} {e b o : Expr} {pos p q tpos : Pos} {x f : Str} {i : Nat} {π : List PStep} {k : Nat} {bb pb : Bool} {g : Int → Int → Int} {fv : M OD}
theorem z_aug {op : Operator} (h : PS X st (tAug i (TX G W pb fv) (ipI g))) (hp : i ∉ pn) : SS X G W pn st (zAug i g fv) := PS.of h fun D σ H z => by
  obtain ⟨F, ρ, A, S, z⟩ := z
  unfold zAug at z
  split at z
  · rename_i a e0
    obtain ⟨v0, _, _, h1, h2, _⟩ := S.sl.at (join_some e0)
    simp only [OT, Rep] at h2
    obtain ⟨rfl, _⟩ := h2
    refine ⟨_, h1, TX.then S z fun od ρ1 F1 H1 x A1 e3 g1 S1 z => ?_⟩
    split at z
    · rename_i b0
      split at z
      · rename_i hl
        obtain ⟨hr, S2⟩ := Stt.pop_v S1
        simp only [Rep] at hr
        subst hr
        obtain ⟨A3, S3, sub⟩ := S2.setv (d := .int (g a b0)) (v := .int (g a b0)) (i := i) (by simp only [Rep]) hl
        exact ⟨_, _, rfl, rfl, z F1 H1 _ A3 (Go.refl.less sub) (.set hp) S3⟩
      · exact z.elim
    · exact z.elim
  · exact z.elim
theorem get_list : PGet X (rIxL X.K) := by
  intro pins s σ H x y v u Q I rx ry h
  obtain ⟨p, xs, i, z, rfl, rfl, hq, he, q⟩ := h
  cases rx
  obtain ⟨t, rfl⟩ := ry
  obtain ⟨its, r, pl, hz⟩ := I.list hq
  obtain ⟨j, h1, h2, h3, h4, h5⟩ := atI_get he
  obtain ⟨w, ew, rw'⟩ := r.get h2
  have hl := r.length
  have hn := line63
  have fin : EP X pins σ Q w s := ⟨z, H, I, rw', q⟩
  by_cases h0 : 0 ≤ i
  · have hj : i.toNat = j := by
      rw [seqIndex_of h0 h5] at h1
      exact Option.some.inj h1
    exact wpAny_getItem_list pl.isList h0 (by omega) (by rw [hj]; simpa using ew) fin
  · have hj : (i + (its.toArray.size : Int)).toNat = j := by
      rw [seqIndex_neg (by omega) h4] at h1
      rw [List.size_toArray, ← hl]
      exact Option.some.inj h1
    exact wpAny_getItem_list_neg pl.isList (by omega) (by rw [List.size_toArray] <;> omega) (by omega) (by rw [hj]; simpa using ew) fin
theorem z_augIx {n : Int} (hG : G.K = X.K) (h : PS X st (tAugS (tVar i) (tC (.int n)) (TX G W true fv) (rIxL X.K) (ipI g) rSetA)) : SS X G W pn st (zAugIx i n g fv) := PS.of h fun D σ H z => by
  obtain ⟨F, ρ, A, S, z⟩ := z
  unfold zAugIx at z
  split at z
  · rename_i xs e0
    split at z
    · rename_i a e1
      obtain ⟨v0, _, _, h1, h2, _⟩ := S.sl.at (join_some e0)
      have h2' := h2
      simp only [OT] at h2'
      obtain ⟨a0, vs, A0, rfl, ha, hots, cB⟩ := h2'
      obtain ⟨j, ej, exj⟩ := Option.bind_eq_some_iff.mp e1
      obtain ⟨w, E1, E2, ew, ow, _⟩ := hots.at exj
      simp only [OT, Rep] at ow
      obtain ⟨rfl, _⟩ := ow
      refine ⟨_, h1, a0, vs, n, .int a, rfl, rfl, .inl (.of ha), ?_, ?_⟩
      · unfold atI
        rw [hots.len, ej]
        exact ew
      · refine TX.then S z fun od ρ1 F1 H1 x A1 e3 g1 S1 z => ?_
        split at z
        · rename_i od0 b0 od1 e4
          split at z
          · rename_i od' e5
            obtain ⟨hr, S2⟩ := Stt.pop_v S1
            simp only [Rep] at hr
            subst hr
            refine ⟨_, _, rfl, rfl, ?_⟩
            have S3 := S2.push_v (d := .int (g a b0)) (v := .int (g a b0)) (by simp only [Rep])
            exact putIx_run (ix := .int n) (iv := .int n) S3 (join_some e4) h1 (by simp only [Rep]) e5 fun H' A' g' S' => z F1 H' σ A' g' .refl S'
          · exact z.elim
        · exact z.elim
    · exact z.elim
  · exact z.elim
theorem setF_run {c : Str} {C : Addr} {od od' v : OD} {x : V} {fs : List Str} {xs : List OD} (hC : G.mg c = some (.ref C)) (S1 : Stt G F1 H1 (some v :: ρ) (some x :: σ) A1) (q1 : ρ[i]?.join = some od) (q2 : od.at π = some (.o c fs xs)) (hl : fs.length < 1000)
    (q3 : od.putAt π (.o c (putFd fs xs f v).1 (putFd fs xs f v).2) = some od') :
    ∃ v0 a dx fvs, σ[i]? = some (some v0) ∧ Lead G H1 π v0 (.ref a) ∧ H1 a = some (.ins C dx fvs) ∧ fvs.length < 1000 ∧ ∃ A', Go false F1 H1 A1 F1 (upd H1 a (.ins C dx (putF f x fvs))) A' ∧ Stt G F1 (upd H1 a (.ins C dx (putF f x fvs))) (ρ.set i (some od')) σ A' := by
  obtain ⟨B, A0, hv, S0, c0, hB⟩ := S1.pop
  obtain ⟨v0, _, _, h1, _⟩ := S0.sl.at (join_some q1)
  obtain ⟨w1, B1, C1, h4, h5, cA, back⟩ := S0.part (join_some q1) q2 h1
  simp only [OT] at h5
  obtain ⟨a, C', dx, fvs, D1, rfl, hm, ha, hk, hots, cB⟩ := h5
  rw [hC] at hm
  cases hm
  have haA : A0 a := cA.l (cB.l rfl)
  have hna : ∀ b, D1 b → b ≠ a := fun b z y => cB.2 b y z
  have hBa : ∀ b, B b → b ≠ a := fun b z y => c0.2 b z (y ▸ haA)
  refine ⟨v0, a, dx, fvs, h1, h4, ha, by rw [← hk, List.length_map] at hl; exact hl, ?_⟩
  have hots' := hots.mono (F' := F1) (H' := upd H1 a (.ins C dx (putF f x fvs))) (.refl _) fun b z => upd_ne (hna b z)
  have hv' := hv.mono (F' := F1) (H' := upd H1 a (.ins C dx (putF f x fvs))) (.refl _) fun b z => upd_ne (hBa b z)
  have main : ∃ E : AS, (∀ b, E b → D1 b ∨ B b) ∧ OTs G F1 (upd H1 a (.ins C dx (putF f x fvs))) (putFd fs xs f v).2 ((putF f x fvs).map (·.2)) E ∧ (putF f x fvs).map (·.1) = (putFd fs xs f v).1 := by
    obtain ⟨p1, p2⟩ := putF_fd fvs f x
    rw [p1, p2, hk]
    unfold putFd
    cases q : fIx fs f with
    | none =>
      refine ⟨fun b => D1 b ∨ B b, fun _ z => z, ?_, rfl⟩
      exact OTs.snoc hots' hv' (.mk' _ _ fun b z y => c0.2 b y (cA.l (cB.r z)))
    | some j =>
      have hj : j < xs.length := by
        have h1 := hots.len
        have h2 : fs.length = xs.length := by rw [← hk, List.length_map]; rw [List.length_map] at h1; exact h1
        rw [← h2]
        exact (List.findIdx?_eq_some_iff_findIdx_eq.mp q).1
      obtain ⟨u, E1, E2, _, _, cE, bk⟩ := hots'.at (List.getElem?_eq_getElem hj)
      refine ⟨fun b => B b ∨ E2 b, fun b z => z.elim .inr fun z => .inl (cE.r z), ?_, rfl⟩
      exact bk F1 _ v x B _ (.refl _) (fun _ _ => rfl) hv' (.mk' _ _ fun b z y => c0.2 b z (cA.l (cB.r (cE.r y))))
  obtain ⟨E, hE, ho, hks⟩ := main
  obtain ⟨A', S', hA'⟩ := back F1 (upd H1 a (.ins C dx (putF f x fvs))) (.o c (putFd fs xs f v).1 (putFd fs xs f v).2) od' (fun b => b = a ∨ E b) q3 (.refl _) (le_write S0 haA) (fun b z => upd_ne fun y => cA.2 b (cB.l y) z) (by
    simp only [OT]
    exact ⟨a, C, dx, _, E, rfl, hC, upd_same, hks, ho, .mk' _ _ fun b y z => (hE b z).elim (fun z => hna b z y) fun z => hBa b z y⟩)
    (fun b z y => z.elim (fun z => cA.2 b (cB.l z) y) fun z => (hE b z).elim (fun z => cA.2 b (cB.r z) y) fun z => c0.2 b z (cA.r y))
    (fun b z => z.elim (fun z => S0.fr b (z ▸ haA)) fun z => (hE b z).elim (fun z => S0.fr b (cA.l (cB.r z))) fun z => hB b z) (fun b z => S0.fr b (cA.r z))
  refine ⟨A', go_write (A0 := A0) (c0.r haA) fun b z => ?_, S'⟩
  rcases (hA' b).1 z with (z | z) | z
  · exact c0.r (z ▸ haA)
  · exact (hE b z).elim (fun z => c0.r (cA.l (cB.r z))) fun z => c0.l z
  · exact c0.r (cA.r z)
theorem lead_snoc {H : Hp} {c f : Str} : ∀ {π : List PStep} {v u : V}, Lead G H (π ++ [.fld c f]) v u → ∃ a C dx fvs, Lead G H π v (.ref a) ∧ G.mg c = some (.ref C) ∧ H a = some (.ins C dx fvs) ∧ fvs.lookup f = some u
  | [], v, u, h => by
    obtain ⟨a, C, dx, fvs, u', rfl, m, e1, e2, h⟩ := h
    cases h
    exact ⟨a, C, dx, fvs, rfl, m, e1, e2⟩
  | .ix _ :: π, v, u, h => by
    obtain ⟨a, vs, u', rfl, e1, e2, h⟩ := h
    obtain ⟨a', C', dx', fvs', k, z⟩ := lead_snoc (π := π) h
    exact ⟨a', C', dx', fvs', ⟨a, vs, u', rfl, e1, e2, k⟩, z⟩
  | .ky _ :: π, v, u, h => by
    obtain ⟨a, kvs, u', rfl, e1, e2, h⟩ := h
    obtain ⟨a', C', dx', fvs', k, z⟩ := lead_snoc (π := π) h
    exact ⟨a', C', dx', fvs', ⟨a, kvs, u', rfl, e1, e2, k⟩, z⟩
  | .fld _ _ :: π, v, u, h => by
    obtain ⟨a, C, dx, fvs, u', rfl, m, e1, e2, h⟩ := h
    obtain ⟨a', C', dx', fvs', k, z⟩ := lead_snoc (π := π) h
    exact ⟨a', C', dx', fvs', ⟨a, C, dx, fvs, u', rfl, m, e1, e2, k⟩, z⟩
theorem z_augF {c : Str} {C : Addr} {rd : V → V → Hp → VK → Prop} (hrd : ∀ a b H Q, Q (.int (g a b)) H → rd (.int a) (.int b) H Q) (hC : G.mg c = some (.ref C)) (cl : Cls X.K C) (na : NoAttr X.K C f) (h : PS X st (sFldAug X.K (tPath G i π) (TX G W true fv) rd f)) : SS X G W pn st (zAugF i π c f g fv) := PS.of h fun D σ H z => by
  obtain ⟨F, ρ, A, S, z⟩ := z
  unfold zAugF at z
  split at z
  · rename_i a e0
    obtain ⟨od0, e1, e2⟩ := slotAt_some e0
    obtain ⟨v0, _, _, h1, _⟩ := S.sl.at e1
    obtain ⟨w, B0, C0, h2, h3, _⟩ := S.part e1 e2 h1
    simp only [OT, Rep] at h3
    obtain ⟨rfl, _⟩ := h3
    obtain ⟨a0, C', dx, fvs, l1, m, ea, el⟩ := lead_snoc h2
    rw [hC] at m; cases m
    refine ⟨v0, _, h1, l1, a0, C, dx, fvs, _, rfl, ea, cl, na, el, TX.then S z fun od ρ1 F1 H1 x A1 e3 g1 S1 z => ?_⟩
    split at z
    · rename_i b0
      obtain ⟨hr, S2⟩ := Stt.pop_v S1
      simp only [Rep] at hr
      subst hr
      apply hrd
      unfold zSetF at z
      simp only [Out.bind_ok] at z
      split at z
      · rename_i od1 q1
        split at z
        · rename_i c' fs xs q2
          split at z
          · rename_i hc
            obtain ⟨rfl, hl⟩ := hc
            split at z
            · rename_i od' q3
              have S3 := S2.push_v (d := .int (g a b0)) (v := .int (g a b0)) (by simp only [Rep])
              obtain ⟨v1, a1, dx1, fvs1, h11, l2, ha1, hl1, A', gg, S'⟩ := setF_run (x := .int (g a b0)) hC S3 q1 q2 hl q3
              rw [h1] at h11; cases h11
              have l1' : Lead G H1 π v0 (.ref a0) := l1.keep fun a o q => g1.keep a o q fun n => by cases n.1
              have := Lead.det l1' l2
              cases this
              exact ⟨dx1, fvs1, ha1, hl1, z F1 _ σ A' gg .refl S'⟩
            · exact z.elim
          · exact z.elim
        · exact z.elim
      · exact z.elim
    · exact z.elim
  · exact z.elim
/-- targets a, b = e -/
def zSetT (tg : Tgt) (f : M OD) : SM := fun ρ => (f ρ).bind fun od ρ' => match tg.put od.fz ρ' with
  | some ρ1 => .ok .nx ρ1
  | none => .stuck
theorem z_setT {tg : Tgt} {f : M OD} (hp : ∀ i ∈ tg.ix, i ∉ pn) (h : PS X st (tAsg (TX G W pb f) (tg.t G.K))) : SS X G W pn st (zSetT tg f) := PS.of h fun D σ H z => by
  obtain ⟨F, ρ, A, S, z⟩ := z
  unfold zSetT at z
  refine TX.then S z fun od ρ1 F1 H1 x A1 e3 g1 S1 z => ?_
  obtain ⟨F2, A2, hr, S2, g2, _⟩ := Stt.frz (p := false) S1
  cases e2 : tg.put od.fz ρ1 with
  | none => rw [e2] at z; exact z.elim
  | some ρ2 =>
    rw [e2] at z
    exact tgt_run S2 hr e2 hp fun σ' A' S' sub pp => z F2 H1 σ' A' (g2.less sub) pp S'
end
end Vs

/-! VsC3: dicts of the module (text keys); a head with tables; statements on parts by name. -/
namespace Vs
open PySem L2 PySem.Spec PyProof.Rows
abbrev Kvs := List (Str × D)
/-! ### facts of a table -/
def tabB (K : PySem.W.Frag) (a : Addr) (kvs : Kvs) : Bool := kvs.all fun q => match PySem.W.nsIn K a q.1 with
  | some (some u) => conB K q.2 u
  | _ => false
def tabA (K : PySem.W.Frag) (x : Str) : Bool := He.eqO (PySem.W.nsIn K mainGlobals x) (some (some (.ref (He.ga K x))))
/-- the module's name x stands for a table -/
structure KD (G : Gx) (w : World) (x : Str) (kvs : Kvs) : Prop where
  ex : ∃ d es n, G.mg x = some (.ref d) ∧ KDict G.K w d es n ∧ (∀ z v, kvs.lookup z = some v → ∃ u y, PySem.W.nsIn G.K d z = some (some u) ∧ RelV y u ∧ ∀ F, Rep G F v y) ∧ ∀ z, kvs.lookup z = none → PySem.W.nsIn G.K d z = some none
theorem look_mem : ∀ {kvs : Kvs} {z : Str} {v : D}, kvs.lookup z = some v → (z, v) ∈ kvs
  | (k, u) :: r, z, v, h => by
    by_cases e : z = k
    · subst e
      simp only [List.lookup, beq_self_eq_true] at h
      cases h
      exact List.mem_cons_self
    · have : (z == k) = false := by simpa using e
      simp only [List.lookup, this] at h
      exact List.mem_cons_of_mem _ (look_mem h)
theorem look_no : ∀ {kvs : Kvs} {z : Str}, kvs.lookup z = none → z ∉ kvs.map (·.1)
  | [], _, _ => by simp
  | (k, u) :: r, z, h => by
    by_cases e : z = k
    · subst e
      simp [List.lookup] at h
    · have : (z == k) = false := by simpa using e
      simp only [List.lookup, this] at h
      simp [e, look_no h]
theorem keyOf_find {P : Params} {z : Str} : ∀ {l : List DictEntry} {ks : List Str}, l.map He.keyOf = He.keysIn P ks → z ∉ ks → l.find? (·.key.isStr z) = none ∧ l.any (·.refKey) = false
  | [], _, _, _ => ⟨rfl, rfl⟩
  | e :: r, [], h, _ => by cases h
  | e :: r, k :: ks, h, hz => by
    have h1 : He.keyOf e :: r.map He.keyOf = some (k, PyData.keyHash P k) :: He.keysIn P ks := h
    injection h1 with h2 h3
    obtain ⟨i1, i2⟩ := keyOf_find h3 fun m => hz (List.mem_cons_of_mem _ m)
    unfold He.keyOf at h2
    split at h2
    · rename_i x t q
      obtain ⟨h5, h6⟩ := Prod.mk.inj (Option.some.inj h2)
      have hx : x ≠ z := fun y => hz (by rw [← y, h5]; exact List.mem_cons_self)
      refine ⟨?_, ?_⟩
      · rw [List.find?_cons]
        have : e.key.isStr z = false := by
          rw [q]
          show (decide _ : Bool) = false <;> simp [hx]
        rw [this]
        exact i1
      · rw [List.any_cons, i2, Bool.or_false]
        show e.refKey = false
        unfold DictEntry.refKey
        rw [q]
    · cases h2
structure Ht (ts : List (Str × Kvs)) (w : World) (G : Gx) : Prop where
  t : (ts.map fun t => He.dicW G.K (He.ga G.K t.1)) = ts.map fun t => some (He.keysIn w.params (t.2.map Prod.fst))
  b : (ts.all fun t => tabA G.K t.1 && tabB G.K (He.ga G.K t.1) t.2) = true
  at_ : ∃ h : Heap, G.K.In h ∧ h.Ns mainGlobals G.mg
theorem Ht.kd {ts : List (Str × Kvs)} {w : World} {G : Gx} (h : Ht ts w G) (i : Nat) {x : Str} {kvs : Kvs} (e : ts[i]? = some (x, kvs) := by rfl) : KD G w x kvs := by
  obtain ⟨p, X, N⟩ := h.at_
  have h1 := List.all_eq_true.mp h.b _ (List.mem_of_getElem? e)
  simp only [Bool.and_eq_true] at h1
  have e2 : (ts.map fun t => He.dicW G.K (He.ga G.K t.1))[i]? = (ts.map fun t => some (He.keysIn w.params (t.2.map Prod.fst)))[i]? := by rw [h.t]
  rw [List.getElem?_map, List.getElem?_map, e] at e2
  have e3 : He.dicW G.K (He.ga G.K x) = some (He.keysIn w.params (kvs.map (·.1))) := Option.some.inj e2
  obtain ⟨es, n, D⟩ := He.dicW_ok e3
  refine ⟨_, es, n, PySem.W.mg_of X N (He.eqO_ok h1.1), D, fun z v hz => ?_, fun z hz => ?_⟩
  · have h2 := List.all_eq_true.mp h1.2 _ (look_mem hz)
    simp only at h2
    split at h2
    · rename_i u q
      obtain ⟨y, r, k⟩ := conB_ok h2
      exact ⟨u, y, q, r, k⟩
    · cases h2
  · have h3 : es.toList.map He.keyOf = He.keysIn w.params (kvs.map (·.1)) := by
      unfold He.dicW at e3
      rw [D.at_] at e3
      simp only [D.low, decide_true, Bool.true_and, Bool.not_false, Bool.and_true] at e3
      exact Option.some.inj e3
    obtain ⟨q1, q2⟩ := keyOf_find h3 (look_no hz)
    unfold PySem.W.nsIn
    rw [D.at_]
    simp only [q1, q2]
    rfl
/-! ### the Hook -/
abbrev AlW := AlV × (List (Option (List (Option (Str × Int)))) × Bool)
def obsW (n : Nat) (fa : List He.Fa) (fn : List He.DefD) (cs : List (Str × D)) (xf : List XF) (ts : List (Str × Kvs)) (g : Addr → Option Obj) : AlW :=
  (obsV n fa fn cs xf g, ((ts.map fun t => He.dicW (He.frG g (asV g n)) (He.ga (He.frG g (asV g n)) t.1)), ts.all fun t => tabA (He.frG g (asV g n)) t.1 && tabB (He.frG g (asV g n)) (He.ga (He.frG g (asV g n)) t.1) t.2))
def hookW (n : Nat) (fa : List He.Fa) (fn : List He.DefD) (cs : List (Str × D)) (xf : List XF) (ts : List (Str × Kvs)) : PySem.W.Hook where
  α := AlW
  obs := fun s => obsW n fa fn cs xf ts s.heap.get?
  val := fun w => ((He.valD fn, true, xf.map XF.valI), (ts.map fun (t : Str × Kvs) => some (He.keysIn w.params (t.2.map Prod.fst))), true)
  says := fun w h => ∃ K : PySem.W.Frag, K.In h ∧ He.SaysD fa fn K ∧ ((cs.all fun p => nsB K p.1 p.2) && xf.all fun p => p.ok K) = true ∧ xf.map (XF.fnI K) = xf.map XF.valI ∧
    ((ts.map fun t => He.dicW K (He.ga K t.1)) = ts.map fun t => some (He.keysIn w.params (t.2.map Prod.fst))) ∧ (ts.all fun t => tabA K t.1 && tabB K (He.ga K t.1) t.2) = true
  of := fun _ _ e => ⟨_, He.frG_in, congrArg (fun z : AlW => z.1.1) e, congrArg (fun z : AlW => z.1.2.1) e, congrArg (fun z : AlW => z.1.2.2) e, congrArg (fun z : AlW => z.2.1) e, congrArg (fun z : AlW => z.2.2) e⟩
  keeps := fun _ _ _ ⟨K, hK, c⟩ k => ⟨K, PySem.W.Frag.In.keeps hK k, c⟩
theorem obsW_eq {n : Nat} {fa : List He.Fa} {fn : List He.DefD} {cs : List (Str × D)} {xf : List XF} {ts : List (Str × Kvs)} {g : Addr → Option Obj} {s : Shared} (h : ∀ a, g a = s.heap.get? a) : obsW n fa fn cs xf ts g = (hookW n fa fn cs xf ts).obs s := by
  have e : g = s.heap.get? := funext h
  rw [e] <;> rfl
/-! ### readings -/
def opKIn (kvs : Kvs) (neg : Bool) : List D → Option OD
  | [.str z] => some (.v (.bl ((kvs.lookup z).isSome != neg)))
  | _ => none
def opKIx (kvs : Kvs) : List D → Option OD
  | [.str z] => (kvs.lookup z).map OD.v
  | _ => none
section
variable {G : Gx} {W : WX} {X : Cx} {pn : List Nat} {k : Nat} {bb pb : Bool} {a b e o : Expr} {oa : Opd} {pos p tpos : Pos} {x : Str} {kvs : Kvs} {i : Nat} {π : List PStep} {f c : Str} {C : Addr} {fv : M OD} {st : Stmt}
def rK1 (r : R2) (d : Addr) : List V → Hp → VK → Prop := fun vs H Q => match vs with
  | [y] => r y (.ref d) H Q
  | _ => False
def rK2 (r : R2) (d : Addr) : List V → Hp → VK → Prop := fun vs H Q => match vs with
  | [y] => r (.ref d) y H Q
  | _ => False
theorem rn_kin {d : Addr} {g : Bool → Bool} {neg : Bool} (hg : ∀ b, g b = (b != neg)) (h1 : ∀ z v, kvs.lookup z = some v → ∃ u y, PySem.W.nsIn G.K d z = some (some u) ∧ RelV y u ∧ ∀ F, Rep G F v y) (h2 : ∀ z, kvs.lookup z = none → PySem.W.nsIn G.K d z = some none) :
    RN G (rK1 (fun x y H Q => ∃ (z : Str) (r : Option Value), x = .str z ∧ y = .ref d ∧ PySem.W.nsIn G.K d z = some r ∧ Q (.bl (g r.isSome)) H) d) (opKIn kvs neg) := fun F H xs vs z Q le hr ez k => by
  unfold opKIn at ez
  split at ez
  · rename_i z0
    cases ez
    obtain ⟨v, rfl, h3⟩ := hr.one
    have := repB_str h3
    subst this
    cases e : kvs.lookup z0 with
    | none =>
      refine ⟨z0, none, rfl, rfl, h2 z0 e, ?_⟩
      rw [e] at k
      refine k F H _ (fun _ => False) (.refl le) ?_ fun _ z => z.elim
      simp only [OT, Rep, hg]
      exact ⟨rfl, fun _ z => z⟩
    | some v0 =>
      obtain ⟨u, y, q, _, _⟩ := h1 z0 v0 e
      refine ⟨z0, some u, rfl, rfl, q, ?_⟩
      rw [e] at k
      refine k F H _ (fun _ => False) (.refl le) ?_ fun _ z => z.elim
      simp only [OT, Rep, hg]
      exact ⟨rfl, fun _ z => z⟩
  · cases ez
theorem rn_kix {d : Addr} {w : World} {es : Array DictEntry} {n : Nat} (Dk : KDict G.K w d es n) (h1 : ∀ z v, kvs.lookup z = some v → ∃ u y, PySem.W.nsIn G.K d z = some (some u) ∧ RelV y u ∧ ∀ F, Rep G F v y) :
    RN G (rK2 (rIxD G.K w) d) (opKIx kvs) := fun F H xs vs z Q le hr ez k => by
  unfold opKIx at ez
  split at ez
  · rename_i z0
    obtain ⟨v, rfl, h3⟩ := hr.one
    have := repB_str h3
    subst this
    cases e : kvs.lookup z0 with
    | none => rw [e] at ez; cases ez
    | some v0 =>
      rw [e] at ez
      cases ez
      obtain ⟨u, y, q, r, rp⟩ := h1 z0 v0 e
      refine ⟨d, z0, y, rfl, rfl, ⟨es, n, u, Dk.at_, Dk.lit, q, r⟩, ?_⟩
      refine k F H _ (fun _ => False) (.refl le) ?_ fun _ z => z.elim
      simp only [OT]
      exact ⟨rp F, fun _ z => z⟩
  · cases ez
theorem e_kin (K : Ok X G W k bb) (D : KD G X.w x kvs) (ha : SO X G W a oa) (hm : behindInMarks .In (.Name x p) = false := by with_unfolding_all rfl) (hg : Gl X x := by rfl) (hd : (x == ("__debug__" : Str)) = false := by decide) : SX X G W (pAll [oa]) (.Compare a [.In] [.Name x p] pos) (mApp (opKIn kvs false) [oa]) := by
  obtain ⟨d, es, n, m, Dk, h1, h2⟩ := D.ex
  have R := rn_kin (G := G) (g := fun b => b) (neg := false) (by decide) h1 h2
  rw [K.gm] at m
  have Dk' := Dk
  rw [K.gK] at Dk' R
  exact sx_app (pe_cmpR (op_in_kd Dk') ha (pe_glob hg m (show RelV (.ref d) (.ref d) from rfl) hd) hm) R fun σ H Q z => z
theorem e_knin (K : Ok X G W k bb) (D : KD G X.w x kvs) (ha : SO X G W a oa) (hm : behindInMarks .NotIn (.Name x p) = false := by with_unfolding_all rfl) (hg : Gl X x := by rfl) (hd : (x == ("__debug__" : Str)) = false := by decide) : SX X G W (pAll [oa]) (.Compare a [.NotIn] [.Name x p] pos) (mApp (opKIn kvs true) [oa]) := by
  obtain ⟨d, es, n, m, Dk, h1, h2⟩ := D.ex
  have R := rn_kin (G := G) (g := fun b => !b) (neg := true) (by decide) h1 h2
  rw [K.gm] at m
  have Dk' := Dk
  rw [K.gK] at Dk' R
  exact sx_app (pe_cmpR (op_notIn_kd Dk') ha (pe_glob hg m (show RelV (.ref d) (.ref d) from rfl) hd) hm) R fun σ H Q z => z
theorem e_kix (K : Ok X G W k bb) (D : KD G X.w x kvs) (ha : SO X G W a oa) (hs : PlainIx a := by intro _ _; rfl) (hg : Gl X x := by rfl) (hd : (x == ("__debug__" : Str)) = false := by decide) : SX X G W (pAll [oa]) (.Subscript (.Name x p) a pos) (mApp (opKIx kvs) [oa]) := by
  obtain ⟨d, es, n, m, Dk, h1, h2⟩ := D.ex
  have R := rn_kix (G := G) Dk h1
  rw [K.gm] at m
  rw [K.gK] at R
  exact sx_app (pe_ix ix_kdict (pe_glob hg m (show RelV (.ref d) (.ref d) from rfl) hd) ha hs) R fun σ H Q z => z
/-! ### statements -/
theorem s_augAdd (i : Nat) {pos' : Pos} (K : Ok X G W k bb) (he : SX X G W pb e fv) (hi : X.N[i]? = some x := by rfl) (hp : i ∉ pn := by decide) (hx : Loc X.env.scope x := by first | exact Or.inl rfl | exact Or.inr rfl)
    (hf : X.fn x = true ∨ X.env.scope.names.lookup x = some .local := by first | exact Or.inr rfl | exact Or.inl rfl) : SS X G W pn (.AugAssign (.Name x pos') .Add e pos) (zAug i fAdd fv) := z_aug (op := .Add) (ps_aug K.n hi hx he ip_add hf) hp
theorem s_augSub (i : Nat) {pos' : Pos} (K : Ok X G W k bb) (he : SX X G W pb e fv) (hi : X.N[i]? = some x := by rfl) (hp : i ∉ pn := by decide) (hx : Loc X.env.scope x := by first | exact Or.inl rfl | exact Or.inr rfl)
    (hf : X.fn x = true ∨ X.env.scope.names.lookup x = some .local := by first | exact Or.inr rfl | exact Or.inl rfl) : SS X G W pn (.AugAssign (.Name x pos') .Sub e pos) (zAug i fSub fv) := z_aug (op := .Sub) (ps_aug K.n hi hx he ip_sub hf) hp
theorem s_augIxAdd (i : Nat) {n : Int} (K : Ok X G W k bb) (he : SX X G W true e fv) (hb : PE X b (tC (.int n))) (hN : X.N[i]? = some x := by rfl) (hv : Vis X.env.scope x := by first | exact Or.inl rfl | exact Or.inr (Or.inl rfl) | exact Or.inr (Or.inr rfl))
    (ha : ∀ ov iv new, augStore b ov iv new = (do holding [new, ov, iv] (setItem ov iv new); release [new, ov, iv] []; pure .next) := by intros; rfl) (hd : (x == ("__debug__" : Str)) = false := by decide) (hcd : (x == ("__classdict__" : Str)) = false := by decide) :
    SS X G W pn (.AugAssign (.Subscript (.Name x p) b tpos) .Add e pos) (zAugIx i n fAdd fv) := z_augIx K.gK (ps_augS (pe_var hN hv hd hcd) hb get_list he ip_add (set_any K.u1) ha)
theorem s_augFAdd (K : Ok X G W k bb) (hC : G.mg c = some (.ref C)) (cl : Cls G.K C) (na : NoAttr G.K C f) (ho : PP X G o i π) (he : SX X G W true e fv) : SS X G W pn (.AugAssign (.Attribute o f tpos) .Add e pos) (zAugF i π c f fAdd fv) := by
  rw [K.gK] at cl na
  exact z_augF (rd := rAdd) (fun a b H Q q => ⟨a, b, rfl, rfl, q⟩) hC cl na (ps_fldaug ho he in_add)
theorem s_augFSub (K : Ok X G W k bb) (hC : G.mg c = some (.ref C)) (cl : Cls G.K C) (na : NoAttr G.K C f) (ho : PP X G o i π) (he : SX X G W true e fv) : SS X G W pn (.AugAssign (.Attribute o f tpos) .Sub e pos) (zAugF i π c f fSub fv) := by
  rw [K.gK] at cl na
  exact z_augF (rd := rSub) (fun a b H Q q => ⟨a, b, rfl, rfl, q⟩) hC cl na (ps_fldaug ho he in_sub)
theorem s_setF {pos' : Pos} (K : Ok X G W k bb) (hC : G.mg c = some (.ref C)) (cl : Cls G.K C) (na : NoAttr G.K C f) (ho : PP X G o i π) (he : SX X G W pb e fv) (hs : swapsWith e (some (.Attribute o f pos')) pos.line X.env = pure false := by rfl) : SS X G W pn (.Assign [.Attribute o f pos'] e pos) (zSetF i π c f fv) := by
  rw [K.gK] at cl na
  exact z_setF hC cl na (ps_fld ho he hs)
theorem p_fld (K : Ok X G W k bb) (hC : G.mg c = some (.ref C)) (cl : Cls G.K C) (na : NoAttr G.K C f) (ho : PP X G o i π) (hb : attributeBase o f X.env (eval o X.env) = eval o X.env := by rfl) : PP X G (.Attribute o f pos) i (π ++ [.fld c f]) := by
  rw [K.gK] at cl na
  exact pp_fld ho hC cl na hb
theorem s_setT {tg : Tgt} {tgt : Expr} {f : M OD} (K : Ok X G W k bb) (he : SX X G W pb e f) (hg : PG X tgt (tg.t G.K)) (hp : ∀ i ∈ tg.ix, i ∉ pn := by decide) (hs : swapsWithSole [tgt] e pos.line X.env = pure false := by rfl) (hw : swappedStores [tgt] e X.env = pure none := by rfl)
    (h1 : (assignEach [tgt] X.env).map (·.2) = [assign tgt X.env] := by rfl) : SS X G W pn (.Assign [tgt] e pos) (zSetT tg f) := z_setT hp (ps_asg he hg hs hw h1)
end
/-- a statement of a class -/
def clsAt (s : Stmt) (j : Nat) : Stmt := match s with
  | .ClassDef _ _ _ body _ _ _ _ _ _ _ => body.getD j (.Pass ⟨0, 0, 0, 0⟩)
  | _ => .Pass ⟨0, 0, 0, 0⟩
end Vs

/-! VsC4: sorted(d), dict(pairs), dict(d). -/
namespace Vs
open PySem L2 PySem.Spec PyProof.Rows
/-- texts in order -/
def sortS (ks : List Str) : List Str := ks.mergeSort fun a b => decide (a.cps.toList ≤ b.cps.toList)
theorem strExt {a b : Str} (h : a.cps.toList = b.cps.toList) : a = b := by
  cases a; cases b
  simp only [Str.mk.injEq]
  exact Array.toList_inj.mp h
theorem rising_pw : ∀ (l : List Str) (p : Str), risingS p l = true → (p :: l).Pairwise fun a b => a.cps.toList ≤ b.cps.toList
  | [], p, _ => List.pairwise_singleton _ _
  | x :: r, p, h => by
    simp only [risingS, Bool.and_eq_true, Bool.not_eq_true', ltCps_eq, decide_eq_false_iff_not] at h
    have ih := rising_pw r x h.2
    have h1 : p.cps.toList ≤ x.cps.toList := List.not_lt.mp h.1
    refine List.pairwise_cons.mpr ⟨fun b hb => ?_, ih⟩
    rcases List.mem_cons.mp hb with rfl | hb
    · exact h1
    · exact List.le_trans h1 ((List.pairwise_cons.mp ih).1 b hb)
theorem sortedS_pw : ∀ (l : List Str), sortedS l = true → l.Pairwise fun a b => a.cps.toList ≤ b.cps.toList
  | [], _ => .nil
  | x :: r, h => rising_pw r x h
theorem pw_eq {l l' : List Str} (p : l.Perm l') (h : l.Pairwise fun a b => a.cps.toList ≤ b.cps.toList) (h' : l'.Pairwise fun a b => a.cps.toList ≤ b.cps.toList) : l = l' :=
  p.eq_of_pairwise (fun a b _ _ h1 h2 => strExt (List.le_antisymm h1 h2)) h h'
theorem sortS_pw (ks : List Str) : (sortS ks).Pairwise fun a b => a.cps.toList ≤ b.cps.toList := by
  have := List.pairwise_mergeSort (le := fun a b : Str => decide (a.cps.toList ≤ b.cps.toList)) (fun a b c h1 h2 => by
    simp only [decide_eq_true_eq] at h1 h2 ⊢
    exact List.le_trans h1 h2) (fun a b => by
    simp only [Bool.or_eq_true, decide_eq_true_eq]
    exact List.le_total _ _) ks
  exact this.imp fun h => by simpa using h
theorem sortS_perm (ks : List Str) : (sortS ks).Perm ks := List.mergeSort_perm _ _
theorem sortS_uniq {ys ks : List Str} (p : ys.Perm ks) (h : sortedS ys = true) : ys = sortS ks := pw_eq (p.trans (sortS_perm ks).symm) (sortedS_pw ys h) (sortS_pw ks)
def txKeys : List L2.Key → Option (List Str)
  | [] => some []
  | .inr s :: r => (txKeys r).map fun l => s :: l
  | .inl _ :: _ => none
theorem txKeys_eq : ∀ {ks : List L2.Key} {l : List Str}, txKeys ks = some l → ks = l.map Sum.inr
  | [], l, h => by simp only [txKeys] at h; cases h; rfl
  | .inr s :: r, l, h => by
    simp only [txKeys] at h
    cases q : txKeys r with
    | none => rw [q] at h; cases h
    | some l' => rw [q] at h; cases h; rw [txKeys_eq q]; rfl
  | .inl _ :: _, l, h => by simp [txKeys] at h
theorem txKeys_map : ∀ l : List Str, txKeys (l.map Sum.inr) = some l
  | [] => rfl
  | s :: l => by simp only [List.map_cons, txKeys, txKeys_map l, Option.map_some]
def dSortK : List D → Option (List D)
  | [.dk ks _] => (txKeys ks).bind fun l => if l.length < 64 then some ((sortS l).map .str) else none
  | _ => none
def opSortedA (xs : List D) : Option OD := (opSorted xs).or ((dSortK xs).map fun ds => OD.l (ds.map .v))
abbrev rSortedD : List V → Hp → VK → Prop := fun xs H Q => ∃ (a : Addr) (kvs : List (L2.Key × V)) (ks : List Str), xs = [.ref a] ∧ Rd H a (.dK kvs) ∧ kvs.map (·.1) = ks.map Sum.inr ∧ ks.length < 64 ∧
    ∀ ys p, ys.Perm ks → sortedS ys = true → H p = none → Q (.ref p) (upd H p (.lst (ys.map V.str)))
section
variable {X : Cx} {G : Gx} {W : WX} {F H : Hp} {k : Nat} {bb : Bool}
theorem rn_sortK : RN G rSortedD (fun xs => (dSortK xs).map fun ds => OD.l (ds.map .v)) := rn_l fun F H xs vs z Q le hr ez k => by
  unfold dSortK at ez
  split at ez
  · rename_i ks ds
    cases q : txKeys ks with
    | none => rw [q] at ez; cases ez
    | some l =>
      rw [q] at ez
      simp only [Option.bind_some] at ez
      split at ez
      · rename_i hl
        cases ez
        obtain ⟨v, rfl, h⟩ := hr.one
        simp only [RepB] at h
        obtain ⟨a, kvs, rfl, hd, hk, _⟩ := h
        refine ⟨a, kvs, l, rfl, hd, by rw [hk, txKeys_eq q], hl, fun ys p hp hs hn => ?_⟩
        rw [sortS_uniq hp hs]
        exact k p _ hn (.map fun s _ => by simp only [Rep])
      · cases ez
  · cases ez
theorem cr_sortedA (hc : X.calm = true) (hu : X.A.units + 64 < cLine) : CallR X (.builtin "sorted") (fun xs H Q => rSortV X.K xs H Q ∨ rSortedD xs H Q) := (cr_sortV hu).or (call_sortedD hc)
theorem rn_sortedA (hG : G.K = X.K) : RN G (fun xs H Q => rSortV X.K xs H Q ∨ rSortedD xs H Q) opSortedA := RN.or (rn_sorted hG) rn_sortK
/-! ### dict(..) -/
def mkP (ks : List L2.Key) (xs : List D) : List D → Option (List L2.Key × List D)
  | [] => some (ks, xs)
  | .tup [k, v] :: r => (keyD k).bind fun k => mkP (putD ks xs k v).1 (putD ks xs k v).2 r
  | _ => none
theorem mkP_rep : ∀ {ds : List D} {vs : List V} {ks ks' : List L2.Key} {xs xs' : List D} {kvs : List (L2.Key × V)}, Reps G F ds vs → kvs.map (·.1) = ks → Reps G F xs (kvs.map (·.2)) → mkP ks xs ds = some (ks', xs') →
    ∃ (ps : List Addr) (more : List (L2.Key × V)), vs = ps.map V.ref ∧ Paired (fun p kv => SqT G.K F p [kV kv.1, kv.2]) ps more ∧ (mergeK kvs more).map (·.1) = ks' ∧ Reps G F xs' ((mergeK kvs more).map (·.2))
  | [], vs, ks, ks', xs, xs', kvs, h, hk, hr, e => by
    simp only [mkP] at e; cases e
    simp only [Reps] at h; subst h
    exact ⟨[], [], rfl, .nil, hk, hr⟩
  | d :: ds, vs, ks, ks', xs, xs', kvs, h, hk, hr, e => by
    unfold mkP at e
    split at e
    · rename_i h0; cases h0
    · rename_i k0 v0 r h0
      cases h0
      simp only [Reps] at h
      obtain ⟨v, r2, rfl, h1, h2⟩ := h
      simp only [Rep, Reps] at h1
      obtain ⟨a, us, rfl, hs, y1, r3, rfl, hk1, y2, r4, rfl, hv1, rfl⟩ := h1
      cases q : keyD k0 with
      | none => rw [q] at e; cases e
      | some ky =>
        rw [q] at e
        simp only [Option.bind_some] at e
        obtain ⟨p1, p2⟩ := putK_rep (k := ky) hk hr hv1
        obtain ⟨ps, more, m1, m2, m3, m4⟩ := mkP_rep h2 p1 p2 e
        have : y1 = kV ky := by cases k0 <;> simp only [keyD] at q <;> cases q <;> simp only [Rep] at hk1 <;> exact hk1
        subst this
        exact ⟨a :: ps, (ky, y2) :: more, by rw [m1]; rfl, .cons hs m2, m3, m4⟩
    · cases e
def dDictP : List D → Option (List L2.Key × List D)
  | [.lst ds] => mkP [] [] ds
  | [.rol ds] => mkP [] [] ds
  | [.dk ks ds] => some (ks, ds)
  | _ => none
def opDictA (xs : List D) : Option OD := (dDictP xs).map fun r => .k r.1 (r.2.map .v)
def rDictA (K : PySem.W.Frag) : List V → Hp → VK → Prop := fun xs H Q => (∃ (a : Addr) (ps : List Addr) (kvs : List (L2.Key × V)), xs = [.ref a] ∧ SqL K H a (ps.map V.ref) ∧ Paired (fun p kv => SqT K H p [kV kv.1, kv.2]) ps kvs ∧
    ∀ p, H p = none → Q (.ref p) (upd H p (.dK (mergeK [] kvs)))) ∨ (∃ (a : Addr) (kvs : List (L2.Key × V)), xs = [.ref a] ∧ Rd H a (.dK kvs) ∧ ∀ p, H p = none → Q (.ref p) (upd H p (.dK kvs)))
theorem call_dictA (hc : X.calm = true) : CallR X (.type "dict") (rDictA X.K) := (call_dictP hc).or call_dictD
theorem new_dk {ks : List L2.Key} {ds : List D} {kvs : List (L2.Key × V)} {Q : VK} (le : Le F H) (hk : kvs.map (·.1) = ks) (hr : Reps G F ds (kvs.map (·.2)))
    (k : ∀ F' H' u B, New F H F' H' → OT G F' H' (.k ks (ds.map .v)) u B → (∀ a, B a → H a = none ∧ F' a = none) → Q u H') (p : Addr) (hp : H p = none) : Q (.ref p) (upd H p (.dK kvs)) := by
  refine k F (upd H p (.dK kvs)) (.ref p) (fun b => b = p) (.own le hp) ?_ fun a z => ?_
  · simp only [OT]
    exact ⟨p, kvs, fun _ => False, rfl, upd_same, hk, ots_v hr, .nil_r fun _ z => z⟩
  · subst z
    refine ⟨hp, ?_⟩
    cases q : F a with
    | none => rfl
    | some o => rw [le a o q] at hp; cases hp
theorem rn_dictA (hG : G.K = X.K) : RN G (rDictA X.K) opDictA := fun F H xs vs z Q le hr ez k => by
  unfold opDictA at ez
  cases e : dDictP xs with
  | none => rw [e] at ez; cases ez
  | some r =>
    rw [e] at ez
    cases ez
    unfold dDictP at e
    have pairs : ∀ {ds : List D} {a : Addr} {us : List V}, SqL X.K H a us → Reps G F ds us → mkP [] [] ds = some r → rDictA X.K [.ref a] H Q := fun {ds a us} h1 h2 h3 => by
      obtain ⟨ps, more, m1, m2, m3, m4⟩ := mkP_rep (kvs := []) h2 rfl Reps.nil h3
      subst m1
      refine .inl ⟨a, ps, more, rfl, h1, ?_, fun p hp => new_dk le m3 m4 k p hp⟩
      rw [← hG]
      exact Paired.mapP m2 fun _ _ z => le.sqt z
    split at e
    · obtain ⟨v, rfl, h⟩ := hr.one
      simp only [RepB] at h
      obtain ⟨a, us, rfl, h1, h2⟩ := h
      exact pairs (.inl (.of h1)) h2 e
    · obtain ⟨v, rfl, h⟩ := hr.one
      simp only [RepB, Rep] at h
      obtain ⟨a, us, rfl, h1, h2⟩ := h
      rw [hG] at h1
      exact pairs (le.sql h1) h2 e
    · cases e
      obtain ⟨v, rfl, h⟩ := hr.one
      simp only [RepB] at h
      obtain ⟨a, kvs, rfl, hd, hk, hr2⟩ := h
      exact .inr ⟨a, kvs, rfl, hd, fun p hp => new_dk le hk hr2 k p hp⟩
    · cases e
end
/-! ### evaluation -/
theorem opSortedA_dk {l : List Str} {ds : List D} (h : l.length < 64) : opSortedA [.dk (l.map Sum.inr) ds] = some (.l (((sortS l).map .str).map .v)) := by
  show ((((txKeys (l.map Sum.inr)).bind fun l => if l.length < 64 then some ((sortS l).map D.str) else none).map fun ds => OD.l (ds.map .v))) = _
  rw [txKeys_map]
  simp only [Option.bind_some]
  rw [if_pos h]; rfl
theorem opKIn_e {kvs : Kvs} {neg : Bool} {z : Str} : opKIn kvs neg [.str z] = some (.v (.bl ((kvs.lookup z).isSome != neg))) := nr rfl
theorem opKIx_e {kvs : Kvs} {z : Str} : opKIx kvs [.str z] = (kvs.lookup z).map OD.v := nr rfl
theorem opDictA_lst {ds : List D} : opDictA [.lst ds] = (mkP [] [] ds).map fun r => .k r.1 (r.2.map .v) := nr rfl
theorem opDictA_dk {ks : List L2.Key} {ds : List D} : opDictA [.dk ks ds] = some (.k ks (ds.map .v)) := nr rfl
end Vs
namespace Vs
open PySem L2 PySem.Spec PyProof.Rows
theorem calm_zero {G : Gx} {P : Program} {w : World} {base : Heap} {k : Nat} {c m y qual : Str} {ps : List Str} {params : Arguments} {body : List Stmt} {scope : Scope} {fd : FuncData} (Fn : FunD G.K y qual params body scope [] [] (He.ma G.K (He.ga G.K c) m) fd)
    (hx : G.mg c = some (.ref (He.ga G.K c))) (cl : Cls G.K (He.ga G.K c)) (mt : Meth G.K (He.ga G.K c) m (He.ma G.K (He.ga G.K c) m))
    (hbi : ∀ (kV doc pm : Value) (an : Option Addr) (cdv ct : Value) (us : List Value), us.length = ps.length → bindArgs (PySem.W.fnOf y qual params body scope .none kV doc pm an cdv ct) ⟨us, []⟩ = pure (ps.zip us)) : CalM P w G base k c m ps (fun _ => .stuck) :=
  ⟨_, _, fd, hx, cl, mt, Fn.bindsN hbi, ⟨fun vs H Q E h => by obtain ⟨_, _, _, _, z⟩ := h; exact z.elim, fun _ _ _ _ _ _ _ _ _ _ _ _ _ h => by obtain ⟨_, _, _, _, z⟩ := h; exact z.elim⟩⟩
end Vs
namespace Vs
open PySem L2 PySem.Spec PyProof.Rows
section
variable {G : Gx} {W : WX} {X : Cx} {k : Nat} {bb : Bool} {a : Expr} {oa : Opd} {pos p : Pos} {x : Str} {kvs : Kvs}
theorem t_kin (K : Ok X G W k bb) (D : KD G X.w x kvs) (ha : SO X G W a oa) (hm : behindInMarks .In (.Name x p) = false := by with_unfolding_all rfl) (hg : Gl X x := by rfl) (hd : (x == ("__debug__" : Str)) = false := by decide) : SB X G W (pAll [oa]) (.Compare a [.In] [.Name x p] pos) (asB (mApp (opKIn kvs false) [oa])) := by
  obtain ⟨d, es, n, m, Dk, h1, h2⟩ := D.ex
  have R := rn_kin (G := G) (g := fun b => b) (neg := false) (by decide) h1 h2
  rw [K.gm] at m
  have Dk' := Dk
  rw [K.gK] at Dk' R
  exact PT.of (pt_cmpR (op_in_kd Dk') ha (pe_glob hg m (show RelV (.ref d) (.ref d) from rfl) hd) hm) fun σ H Q q => app_tx R (asB_tx q)
theorem t_knin (K : Ok X G W k bb) (D : KD G X.w x kvs) (ha : SO X G W a oa) (hm : behindInMarks .NotIn (.Name x p) = false := by with_unfolding_all rfl) (hg : Gl X x := by rfl) (hd : (x == ("__debug__" : Str)) = false := by decide) : SB X G W (pAll [oa]) (.Compare a [.NotIn] [.Name x p] pos) (asB (mApp (opKIn kvs true) [oa])) := by
  obtain ⟨d, es, n, m, Dk, h1, h2⟩ := D.ex
  have R := rn_kin (G := G) (g := fun b => !b) (neg := true) (by decide) h1 h2
  rw [K.gm] at m
  have Dk' := Dk
  rw [K.gK] at Dk' R
  exact PT.of (pt_cmpR (op_notIn_kd Dk') ha (pe_glob hg m (show RelV (.ref d) (.ref d) from rfl) hd) hm) fun σ H Q q => app_tx R (asB_tx q)
end
end Vs

/-! VsC6: a text times a whole number. -/
namespace Vs
open PySem L2 PySem.Spec PyProof.Rows
def repS (z : Str) (n : Int) : Str := ⟨(List.replicate n.toNat z.cps.toList).flatten.toArray⟩
theorem fold_rep (a : Array Nat) : ∀ (n : Nat) (b : Array Nat), (List.replicate n a).foldl (· ++ ·) b = b ++ (List.replicate n a.toList).flatten.toArray
  | 0, b => by simp
  | n + 1, b => by
    rw [List.replicate_succ, List.foldl_cons, fold_rep a n, List.replicate_succ, List.flatten_cons]
    apply Array.ext'
    simp
def rRepS : R2 := fun x y H Q => ∃ (z : Str) (n : Int), x = .str z ∧ y = .int n ∧ 0 ≤ n ∧ n ≤ 1000 ∧ z.length ≤ 1000 ∧ Q (.str (repS z n)) H
section
variable {X : Cx} {G : Gx} {W : WX} {k : Nat} {bb : Bool} {a b : Expr} {oa ob : Opd} {pos : Pos}
theorem op_repS : OpR X (binaryOp .Mult) rRepS := by
  intro pins s σ H x y v u Q I rx ry h
  obtain ⟨z, n, rfl, rfl, h0, h1, hz, q⟩ := h
  obtain ⟨t, rfl⟩ := rx
  obtain ⟨t', rfl⟩ := ry
  have hlen : z.length * n.toNat ≤ 1000000 := Nat.le_trans (Nat.mul_le_mul hz (show n.toNat ≤ 1000 by omega)) (by decide)
  refine P.mul_str (by
      have e1 : ¬ n < -(2 ^ 63 : Int) := by omega
      have e2 : ¬ n ≥ 2 ^ 63 := by omega
      rw [decide_eq_false e1, decide_eq_false e2]; rfl) (fun e1 e2 => ?_) (fun e1 e2 => ?_) ?_
  · have h2 : (1000 : Int) ≤ (2 ^ 63 - 1) / n := by
      apply Int.le_ediv_of_mul_le (by omega)
      omega
    omega
  · unfold Builtin.Str.tooLong
    exact decide_eq_false (by have : sizeLine = 16777216 := rfl; omega)
  · have hsz : (repS z n).length ≤ sizeLine := by
      have : (repS z n).length = z.length * n.toNat := by
        show (List.replicate n.toNat z.cps.toList).flatten.toArray.size = _
        simp [Str.length, Nat.mul_comm]
      have h3 : sizeLine = 16777216 := rfl
      omega
    by_cases c1 : n < 1
    · rw [if_pos c1]
      have : repS z n = Str.empty := by
        obtain rfl : n = 0 := by omega
        rfl
      rw [this] at q
      exact ⟨by decide, .str _, H, I.tok _, ⟨_, rfl⟩, q⟩
    · rw [if_neg c1]
      by_cases c2 : (n == 1 || z.length == 0) = true
      · rw [if_pos c2]
        have : repS z n = z := by
          simp only [Bool.or_eq_true, beq_iff_eq] at c2
          apply strExt
          rcases c2 with c2 | c2
          · subst c2
            show ([z.cps.toList].flatten.toArray).toList = _
            simp
          · have h0 : z.cps.toList = [] := by
              have : z.cps.toList.length = 0 := by rw [Array.length_toList]; exact c2
              exact List.length_eq_zero_iff.mp this
            show ((List.replicate n.toNat z.cps.toList).flatten.toArray).toList = _
            rw [h0]
            simp
        rw [this] at q
        exact ⟨.str _, H, I, ⟨_, rfl⟩, q⟩
      · rw [if_neg c2]
        have : (⟨(List.replicate n.toNat z.cps).foldl (· ++ ·) #[]⟩ : Str) = repS z n := by
          unfold repS
          rw [fold_rep]
          simp
        rw [this]
        exact ⟨by omega, .str _, H, I.tok _, ⟨_, rfl⟩, q⟩
def dRepS : List D → Option D
  | [.str z, .int n] => if 0 ≤ n ∧ n ≤ 1000 ∧ z.length ≤ 1000 then some (.str (repS z n)) else none
  | _ => none
def opMulA (xs : List D) : Option OD := (opMul xs).or ((dRepS xs).map .v)
theorem rn_repS : RN G (RV2 rRepS) (fun xs => (dRepS xs).map .v) := rn_s fun F H xs vs z Q le hr ez k => by
  unfold dRepS at ez
  split at ez
  · split at ez
    · rename_i hc
      cases ez
      obtain ⟨v, w, rfl, h1, h2⟩ := hr.two
      exact ⟨_, _, repB_str h1, repB_int h2, hc.1, hc.2.1, hc.2.2, k _ (by simp only [Rep])⟩
    · cases ez
  · cases ez
theorem e_mulA (K : Ok X G W k bb) (ha : SO X G W a oa) (hb : SO X G W b ob) : SX X G W (pAll [oa, ob]) (.BinOp a .Mult b pos) (mApp opMulA [oa, ob]) := sx_bin (op_mul.or op_repS) (RN.or2 rn_Ic rn_repS) ha hb
end
end Vs
namespace Vs
open PySem L2
theorem opMulA_str {z : Str} {n : Int} (h : 0 ≤ n ∧ n ≤ 1000 ∧ z.length ≤ 1000) : opMulA [.str z, .int n] = some (.v (.str (repS z n))) := by
  show ((if 0 ≤ n ∧ n ≤ 1000 ∧ z.length ≤ 1000 then some (D.str (repS z n)) else none).map OD.v) = _
  rw [if_pos h]; rfl
theorem opMulA_r {i j : Int} (h1 : -18446744073709551616 < j) (h2 : j < 18446744073709551616) : opMulA [.int i, .int j] = some (.v (.int (i * j))) := by
  unfold opMulA; rw [opMul_r h1 h2]; rfl
theorem opMulA_l {i j : Int} (h1 : -18446744073709551616 < i) (h2 : i < 18446744073709551616) : opMulA [.int i, .int j] = some (.v (.int (i * j))) := by
  unfold opMulA; rw [opMul_l h1 h2]; rfl
end Vs

/-! VsC5: evaluation: classes, while, augmented assignments. -/
namespace Vs
open PySem L2
def augP (g : Int → Int → Int) (a : Int) (i : Nat) (od : OD) (ρ1 : Env) : Out Fl := match od with
  | .v (.int b) => if i < ρ1.length then .ok .nx (ρ1.set i (some (.v (.int (g a b))))) else .stuck
  | _ => .stuck
def augO (g : Int → Int → Int) (i : Nat) (fv : M OD) (ρ : Env) (x : Option OD) : Out Fl := match x with
  | some (.v (.int a)) => (fv ρ).bind fun od ρ1 => augP g a i od ρ1
  | _ => .stuck
theorem zAug_e {i : Nat} {g : Int → Int → Int} {fv : M OD} {ρ : Env} : zAug i g fv ρ = augO g i fv ρ (ρ[i]?.join) := by unfold zAug augO augP; rfl
theorem augO_int {i : Nat} {g : Int → Int → Int} {fv : M OD} {ρ : Env} {a : Int} : augO g i fv ρ (some (.v (.int a))) = (fv ρ).bind fun od ρ1 => augP g a i od ρ1 := nr rfl
theorem augP_int {i : Nat} {g : Int → Int → Int} {ρ : Env} {a b : Int} (h : i < ρ.length) : augP g a i (.v (.int b)) ρ = .ok .nx (ρ.set i (some (.v (.int (g a b))))) := if_pos h
theorem fAdd_e {a b : Int} : fAdd a b = a + b := nr rfl
theorem fSub_e {a b : Int} : fSub a b = a - b := nr rfl
/-! fields -/
def setFO (c : Str) (fs : List Str) (xs : List OD) (f : Str) (v : OD) : OD := .o c (putFd fs xs f v).1 (putFd fs xs f v).2
def setFP (i : Nat) (c f : Str) (v : OD) (ρ1 : Env) (x : Option OD) : Out Fl := match x with
  | some (.o c' fs xs) => if c = c' ∧ fs.length < 1000 then .ok .nx (ρ1.set i (some (setFO c fs xs f v))) else .stuck
  | _ => .stuck
theorem zSetF_e {i : Nat} {c f : Str} {fv : M OD} {ρ : Env} : zSetF i [] c f fv ρ = (fv ρ).bind fun v ρ1 => setFP i c f v ρ1 (ρ1[i]?.join) := by
  unfold zSetF setFP
  congr 1
  funext v ρ1
  cases ρ1[i]?.join with
  | none => rfl
  | some od => cases od <;> rfl
theorem setFP_o {i : Nat} {c f : Str} {v : OD} {ρ : Env} {fs : List Str} {xs : List OD} (h : fs.length < 1000) : setFP i c f v ρ (some (.o c fs xs)) = .ok .nx (ρ.set i (some (setFO c fs xs f v))) := if_pos ⟨rfl, h⟩
def augFP (i : Nat) (c f : Str) (g : Int → Int → Int) (a : Int) (od : OD) (ρ1 : Env) : Out Fl := match od with
  | .v (.int b) => setFP i c f (.v (.int (g a b))) ρ1 (ρ1[i]?.join)
  | _ => .stuck
def augFO (i : Nat) (c f : Str) (g : Int → Int → Int) (fv : M OD) (ρ : Env) (x : Option OD) : Out Fl := match x with
  | some (.v (.int a)) => (fv ρ).bind fun od ρ1 => augFP i c f g a od ρ1
  | _ => .stuck
theorem zAugF_e {i : Nat} {c f : Str} {g : Int → Int → Int} {fv : M OD} {ρ : Env} : zAugF i [] c f g fv ρ = augFO i c f g fv ρ (slotAt ρ i [.fld c f]) := by
  unfold zAugF augFO
  rw [List.nil_append]
  cases slotAt ρ i [.fld c f] with
  | none => rfl
  | some od =>
    cases od with
    | v d =>
      cases d with
      | int a =>
        simp only
        congr 1
        funext od ρ1
        unfold augFP
        cases od with
        | v d => cases d <;> first | rfl | (simp only [zSetF_e, Out.bind_ok])
        | _ => rfl
      | _ => rfl
    | _ => rfl
theorem augFO_int {i : Nat} {c f : Str} {g : Int → Int → Int} {fv : M OD} {ρ : Env} {a : Int} : augFO i c f g fv ρ (some (.v (.int a))) = (fv ρ).bind fun od ρ1 => augFP i c f g a od ρ1 := nr rfl
theorem augFP_int {i : Nat} {c f : Str} {g : Int → Int → Int} {ρ : Env} {a b : Int} : augFP i c f g a (.v (.int b)) ρ = setFP i c f (.v (.int (g a b))) ρ (ρ[i]?.join) := nr rfl
/-! methods -/
theorem putBack1 {i : Nat} {x : Option OD} {ρ : Env} (h : i < ρ.length) : putBack [.plc i] [x] (ρ.set i none) = ρ.set i x := by
  have : (ρ.set i none)[i]? = some none := List.getElem?_set_self h
  simp only [putBack, this]
  rw [List.set_set]
theorem mMeth0_ok {i : Nat} {c m : Str} {f : FnM} {ρ : Env} {fs : List Str} {xs : List OD} {od : OD} {x : Option OD} (h : ρ[i]? = some (some (.o c fs xs))) (hm : fs.contains m = false) (e : f [.o c fs xs] = .ok od [x]) : mMeth c m f (.plc i) [] ρ = .ok od (ρ.set i x) := by
  have hi : i < ρ.length := (List.getElem?_eq_some_iff.mp h).1
  have h1 : okPl ρ [.plc i] = true := by unfold okPl okPl; simp [slotIs, h]
  unfold mMeth
  rw [if_pos h1]
  show (if isIns c m ρ (.plc i) = true then _ else _) = _
  have h2 : isIns c m ρ (.plc i) = true := by
    unfold isIns
    simp only [h, Option.join_some, beq_self_eq_true, hm, Bool.not_false, Bool.and_true]
  rw [if_pos h2]
  show doCall f [.plc i] ρ = _
  unfold doCall
  simp only [takeAll, h, Option.map_some, e]
  rw [putBack1 hi]
theorem mMeth0_exc {i : Nat} {c m : Str} {f : FnM} {ρ : Env} {fs : List Str} {xs : List OD} {y : XV} {x : Option OD} (h : ρ[i]? = some (some (.o c fs xs))) (hm : fs.contains m = false) (e : f [.o c fs xs] = .exc y [x]) : mMeth c m f (.plc i) [] ρ = .exc y (ρ.set i x) := by
  have hi : i < ρ.length := (List.getElem?_eq_some_iff.mp h).1
  have h1 : okPl ρ [.plc i] = true := by unfold okPl okPl; simp [slotIs, h]
  unfold mMeth
  rw [if_pos h1]
  show (if isIns c m ρ (.plc i) = true then _ else _) = _
  have h2 : isIns c m ρ (.plc i) = true := by
    unfold isIns
    simp only [h, Option.join_some, beq_self_eq_true, hm, Bool.not_false, Bool.and_true]
  rw [if_pos h2]
  show doCall f [.plc i] ρ = _
  unfold doCall
  simp only [takeAll, h, Option.map_some, e]
  rw [putBack1 hi]
theorem mMake_e {c : Str} {f : FnM} {as : List Opd} {ρ : Env} : mMake c f as ρ = if okPl ρ as = true then (evAll as ρ).bind (doMake c f) else .stuck := nr rfl
theorem doMake_own {c : Str} {f : FnM} {a : OD} {od : OD} {bk : List (Option OD)} {ρ : Env} (e : f [.o c [] [], .v a.fz] = .ok (.v .non) (some od :: bk)) (hb : bk.length = 1) : doMake c f [.own a] ρ = .ok od ρ := by
  unfold doMake
  simp only [takeAll, Option.map_some, e]
  match bk, hb with
  | [x], _ => rfl
theorem doMake_nil {c : Str} {f : FnM} {od : OD} {ρ : Env} (e : f [.o c [] []] = .ok (.v .non) [some od]) : doMake c f [] ρ = .ok od ρ := by
  unfold doMake
  simp only [takeAll, e]
  rfl
/-! while -/
theorem zWhile_e {n : Nat} {c : M Bool} {f : SM} {ρ : Env} : zWhile (n + 1) c f ρ = (c ρ).bind fun b ρ1 => if b = true then (f ρ1).bind (zLoop (zWhile n c f)) else .ok .nx ρ1 := nr rfl
theorem while_t {n : Nat} {c : M Bool} {f : SM} {ρ ρ1 ρ2 : Env} (h1 : c ρ = .ok true ρ1) (h2 : f ρ1 = .ok .nx ρ2) : zWhile (n + 1) c f ρ = zWhile n c f ρ2 := by
  rw [zWhile_e, h1, Out.bind_ok, if_pos rfl, h2, Out.bind_ok]
  rfl
theorem while_f {n : Nat} {c : M Bool} {f : SM} {ρ ρ1 : Env} (h1 : c ρ = .ok false ρ1) : zWhile (n + 1) c f ρ = .ok .nx ρ1 := by
  rw [zWhile_e, h1, Out.bind_ok, if_neg (by decide)]
theorem while_k {c : M Bool} {f : SM} {ρ' : Env} (st mid : Nat → Env) : ∀ (k n : Nat), k < n → (∀ i < k, c (st i) = .ok true (mid i) ∧ f (mid i) = .ok .nx (st (i + 1))) → c (st k) = .ok false ρ' → zWhile n c f (st 0) = .ok .nx ρ'
  | 0, n + 1, _, _, h => while_f h
  | k + 1, n + 1, hn, h, h2 => by
    obtain ⟨a, b⟩ := h 0 (by omega)
    rw [while_t a b]
    exact while_k (fun i => st (i + 1)) (fun i => mid (i + 1)) k n (by omega) (fun i hi => h (i + 1) (by omega)) h2
end Vs
namespace VsEv
open Vs PySem L2
end VsEv

/-! VsC7: parts as operands of calls and tests; a part that is frozen where it stands; comprehensions over a part; D.get. -/
namespace Vs
open PySem L2 PySem.Spec PyProof.Rows
/-- the part becomes data where it stands -/
def mFzP (i : Nat) (π : List PStep) : M OD := fun ρ => match ρ[i]?.join with
  | some od => match od.at π with
    | some s => match od.putAt π (.v s.fz) with
      | some od' => .ok (.v s.fz) (ρ.set i (some od'))
      | none => .stuck
    | none => .stuck
  | none => .stuck
def zItP (i : Nat) (π : List PStep) : M (List D) := fun ρ => match slotAt ρ i π with
  | some (.l xs) => match OD.shs xs with
    | some ds => .ok ds ρ
    | none => .stuck
  | _ => .stuck
section
variable {G : Gx} {W : WX} {pn : List Nat} {F F' F1 F2 F3 H H' H1 H2 H3 : Hp} {A A' A1 A2 A3 : AS} {ρ ρ' κ : Vs.Env} {σ ς : L2.St} {X : Cx} {st : Stmt} {e b a o : Expr} {es : List Expr} {pos p q : Pos} {x f : Str} {i k : Nat} {π : List PStep} {bb : Bool}
theorem atm_tx {as : List Atom} {op : List D → Option OD} {r : List V → Hp → VK → Prop} {Q : VK} (R : RN G r op) (z : TX G W true (mAtm op as) σ H Q) : tAtoms G as σ H (fun vs H1 => r vs H1 Q) := by
  obtain ⟨F, ρ, A, κ, ς, S, hl, z⟩ := z
  unfold mAtm at z
  cases e1 : rdAll ρ as with
  | none => rw [e1] at z; exact z.elim
  | some ds =>
    rw [e1] at z
    simp only [Option.bind_some] at z
    cases e2 : op ds with
    | none => rw [e2] at z; exact z.elim
    | some od =>
      rw [e2] at z
      refine atoms_run S hl e1 fun vs hr => R F H ds vs od Q S.le hr e2 fun F' H' u B n ho hB => ?_
      obtain ⟨A', S', hA'⟩ := (S.new n).push ho fun a ha => ⟨(hB a ha).2, fun z => by
        obtain ⟨o, q⟩ := S.sl.there a z
        rw [(hB a ha).1] at q; cases q⟩
      have g := n.go (p := true) (A := A)
      refine z F' H' u A' ⟨g.le, g.keep, fun a ha => ?_, g.nf⟩ S'
      rcases (hA' a).1 ha with z | z
      · exact .inr (hB a z).1
      · exact .inl z
theorem e_biA {as : List Atom} {id : String} {r : List V → Hp → VK → Prop} {fn : List D → Option OD} (hc : CallR X (.builtin id) r) (R : RN G r fn) (K : Ok X G W k bb) (hm : G.mg x = none) (ha : PA X (e :: es) (tAtoms G as)) (hv : bootBuiltins x = some (.builtin id) := by rfl) (hg : Gl X x := by rfl) (hn : x ≠ "__name__" := by decide) (hdb : (x == ("__debug__" : Str)) = false := by decide)
    (he : starEach (e :: es) X.env = (false, eval e X.env) :: starEach es X.env := by rfl) (hpl : (backTo pos (starEach es X.env)).any (·.1) = false := by rfl) : SX X G W true (.Call (.Name x p) (e :: es) [] pos) (mAtm fn as) :=
  sx_atm (pe_callB hc hg (K.m hm) hv ha hn hdb he hpl) R fun σ H Q z => z
theorem truA_tx (hG : G.K = X.K) {Q : Bool → Hp → Prop} (q : TB G W true (asB (mAtm opTru [.p i π])) σ H Q) : tPath G i π σ H fun x H' => ∃ k, TruV X.K x H' k ∧ Q k H' := by
  have q1 := atm_tx (rn_tru hG) (TX.asB q)
  obtain ⟨v, w, h1, h2, k, h3, b, e, h4⟩ := (show tPath G i π σ H fun x H1 => _ from q1)
  cases e
  exact ⟨v, w, h1, h2, k, h3, h4⟩
theorem sb_truA (K : Ok X G W k bb) (ha : PP X G e i π) (he : ∀ whole, isTrue e X.env whole = (do let v ← whole; standAt e.pos; holding [v] (truthy v)) := by intro _; rfl) : SB X G W true e (asB (mAtm opTru [.p i π])) :=
  PT.of (pt_truth ha he) fun σ H Q q => truA_tx K.gK q
theorem sv_notTA (K : Ok X G W k bb) (ha : PP X G a i π) : SV X G W true (.UnaryOp .Not a pos) (bNot (asB (mAtm opTru [.p i π]))) := PE.of (pe_notT ha) fun σ H Q h => by
  have h1 : TB G W (true && true) (fun ρ => ((asB (mAtm opTru [.p i π])) ρ).bind fun b ρ' => .ok (!b) ρ') σ H fun b H1 => Q (.bl b) H1 := TX.mB h
  have h2 : TB G W true (asB (mAtm opTru [.p i π])) σ H fun b H1 => Q (.bl !b) H1 := TB.bind (k := fun b ρ' => .ok (!b) ρ') h1 fun b H1 z => TB.pure z
  exact truA_tx K.gK h2
theorem sx_fzP (h : PP X G e i π) : SX X G W true e (mFzP i π) := PE.of h fun σ H Q z => by
  obtain ⟨F, ρ, A, κ, ς, S, hl, z⟩ := z
  unfold mFzP at z
  split at z
  · rename_i od q1
    split at z
    · rename_i s q2
      split at z
      · rename_i od' q3
        have e1 : ρ[i]? = some (some od) := join_some q1
        obtain ⟨v0, _, _, h1, _⟩ := S.sl.at (getKap (κ := κ) e1)
        obtain ⟨w, B, C, h2, h3, c, back⟩ := S.part (getKap (κ := κ) e1) q2 h1
        have h1' := h1
        rw [getSig hl] at h1
        refine ⟨v0, w, h1, h2, ?_⟩
        have hB : ∀ a, B a → F a = none := fun a z => S.fr a (c.l z)
        have hle := fzH_le (H := H) hB
        have hleH := fzH_leH (B := B) S.le
        have hr : Rep G (fzH F H B) s.fz w := h3.rep hle fun a z => fzH_in z
        obtain ⟨A', S', hA'⟩ := back (fzH F H B) H (.v s.fz) od' (fun _ => False) q3 hle hleH (fun _ _ => rfl) (by simp only [OT]; exact ⟨hr, fun _ z => z⟩) (fun _ z => z.elim) (fun _ z => z.elim) (fun a z => by
          have : ¬ B a := fun y => c.2 a y z
          rw [fzH_out this]; exact S.fr a (c.r z))
        rw [setKap] at S'
        have S2 := S'.push_v hr
        refine z (fzH F H B) H w A' ⟨hle, fun a o e n => e, fun a z => ?_, fun a o e => ?_⟩ S2
        · rcases (hA' a).1 z with z | z
          · exact z.elim
          · exact .inl (c.r z)
        · by_cases hb : B a
          · exact .inr (.inl (c.l hb))
          · rw [fzH_out hb] at e; exact .inl e
      · exact z.elim
    · exact z.elim
  · exact z.elim
end
end Vs

/-! VsC8: comprehensions over a part; dicts of the module: get, walks. -/
namespace Vs
open PySem L2
section
variable {G : Gx} {W : WX} {F F' F1 F2 F3 H H' H1 H2 H3 : Hp} {A A' A1 A2 A3 B : AS} {ρ ρ' κ : Vs.Env} {σ ς : L2.St} {X : Cx}
theorem comp_run2 {J : It} {P : Hp → Prop} {yv : List V} {tg : Tgt} {vs : List Nat} {pc pe p : Bool} {c : M Bool} {e : M OD} {Q : VK} {F0 H0 : Hp} {A0 : AS} (w : Wk J P yv) {ds : List D} (S : Stt G F H (κ ++ ρ) (ς ++ σ) A) (hl : ς.length = κ.length) (g0 : Go p F0 H0 A0 F H A)
    (hpp : p = true → pc = true ∧ pe = true) (r : Reps G F ds yv) (hP : ∀ F' H' A', Le F F' → Le F' H' → Go p F0 H0 A0 F' H' A' → P H') (hp : ∀ i ∈ tg.ix, i ∈ vs)
    (h : Pst G W p ((cLoop tg vs c e ds [] (wipeE ρ vs)).bind fun acc ρ2 => .ok (.l (acc.map .v)) ρ2) F0 H0 A0 κ ς σ fun od ρ' => ∀ F' H' v A', Go p F0 H0 A0 F' H' A' → Stt G F' H' (some od :: (κ ++ ρ')) (some v :: (ς ++ σ)) A' → Q v H') :
    ∀ D, H D = none → ∃ W' : Nat → Nat → Hp → Prop, (∃ m, W' 0 m (upd H D (.lst []))) ∧ ∀ i m H, W' i m H →
      (J.stop i H ∧ Q (.ref D) H) ∨ (J.go i H ∧ ∃ Nx : Hp → Prop, (∀ H', Nx H' → ∃ m', m' < m ∧ W' (i + 1) m' H') ∧ ∀ x H', J.yld i H x H' → tg.t G.K x (wipe σ vs) H' fun σ2 H2 => wipe σ2 vs = wipe σ vs ∧ TB G W0 pc c σ2 H2 fun b H3 =>
        if b = true then TX G W0 pe e σ2 H3 fun y H4 => ∃ acc, H4 D = some (.lst acc) ∧ acc.length < sizeLine ∧ Nx (upd H4 D (.lst (acc ++ [y]))) else Nx H3) := by
  intro D hD
  have hlen := r.len
  have hD0 : A0 D ∨ H0 D = none := g0.back (.inr hD)
  have hkp : ∀ o, H0 D = some o → ¬ (p = false ∧ A0 D) → False := fun o q n => by
    have := g0.keep D o q n
    rw [hD] at this; cases this
  -- the new list is held on the stack
  let Held : Nat → Hp → Prop := fun i H' => ∃ F' A' acc ρ', Stt G F' H' (some (.l (acc.map .v)) :: (κ ++ wipeE ρ' vs)) (some (.ref D) :: (ς ++ wipe σ vs)) A' ∧ Go p F0 H0 A0 F' H' A' ∧ Le F F' ∧
    Pst G W p ((cLoop tg vs c e (ds.drop i) acc (wipeE ρ' vs)).bind fun acc ρ2 => .ok (.l (acc.map .v)) ρ2) F0 H0 A0 κ ς σ fun od ρ' => ∀ F' H' v A', Go p F0 H0 A0 F' H' A' → Stt G F' H' (some od :: (κ ++ ρ')) (some v :: (ς ++ σ)) A' → Q v H'
  have mkHeld : ∀ {i : Nat} {F1 H1 : Hp} {A1 : AS} {acc : List Vs.D} {ρ1 : Vs.Env} {us : List V}, Stt G F1 H1 (κ ++ wipeE ρ1 vs) (ς ++ wipe σ vs) A1 → Reps G F1 acc us → F1 D = none → ¬ A1 D → Go p F0 H0 A0 F1 H1 A1 → Le F F1 →
      Pst G W p ((cLoop tg vs c e (ds.drop i) acc (wipeE ρ1 vs)).bind fun acc ρ2 => .ok (.l (acc.map .v)) ρ2) F0 H0 A0 κ ς σ (fun od ρ' => ∀ F' H' v A', Go p F0 H0 A0 F' H' A' → Stt G F' H' (some od :: (κ ++ ρ')) (some v :: (ς ++ σ)) A' → Q v H') → Held i (upd H1 D (.lst us)) := by
    intro i F1 H1 A1 acc ρ1 us S1 ra f1 n1 g1 le1 h1
    have hne : ∀ a, A1 a → a ≠ D := fun a z q => n1 (q ▸ z)
    have S1' : Stt G F1 (upd H1 D (.lst us)) (κ ++ wipeE ρ1 vs) (ς ++ wipe σ vs) A1 := ⟨fun a o q => by
      by_cases ha : a = D
      · subst ha; rw [f1] at q; cases q
      · rw [upd_ne ha]; exact S1.le a o q, S1.sl.mono (.refl _) fun a z => upd_ne (hne a z), S1.fr⟩
    obtain ⟨A2, S2, h2⟩ := S1'.push (ot_lv ra upd_same) fun a z => by subst z; exact ⟨f1, n1⟩
    refine ⟨F1, A2, acc, ρ1, S2, ⟨g1.le, fun a o q n => ?_, fun a z => ?_, g1.nf⟩, le1, h1⟩
    · by_cases ha : a = D
      · subst ha; exact (hkp o q n).elim
      · rw [upd_ne ha]; exact g1.keep a o q n
    · rcases (h2 a).1 z with rfl | b
      · exact hD0
      · exact g1.sub a b
  have hFD : F D = none := by
    cases q : F D with
    | none => rfl
    | some o => rw [S.le D o q] at hD; cases hD
  refine ⟨fun i m H' => m = yv.length - i ∧ i ≤ yv.length ∧ Held i H', ⟨yv.length, by simp, Nat.zero_le _, ?_⟩, ?_⟩
  · obtain ⟨A1, S1, s1⟩ := wipe_stt (vs := vs) S hl
    refine mkHeld S1 .nil hFD (fun z => ?_) (g0.less s1) (.refl _) h
    obtain ⟨o, q⟩ := S1.sl.there D z
    rw [hD] at q; cases q
  · rintro i m H1 ⟨rfl, hi, F1, A1, acc, ρ1, S1, g1, le1, h1⟩
    have p1 := hP F1 H1 A1 le1 S1.le g1
    by_cases hlt : i < yv.length
    · right
      have ey : yv[i]? = some yv[i] := List.getElem?_eq_getElem hlt
      have hd : i < ds.length := by omega
      refine ⟨w.go i H1 _ p1 ey, fun H' => yv.length - (i + 1) < yv.length - i ∧ i + 1 ≤ yv.length ∧ Held (i + 1) H', fun H' z => ⟨yv.length - (i + 1), z.1, rfl, z.2⟩, fun x H' y => ?_⟩
      obtain ⟨rfl, rfl⟩ := w.yld i H1 _ x H' p1 ey y
      have rd : Rep G F1 ds[i] yv[i] := by
        obtain ⟨v, e1, e2⟩ := r.get (List.getElem?_eq_getElem hd)
        rw [ey] at e1; cases e1
        exact e2.mono le1
      rw [List.drop_eq_getElem_cons hd] at h1
      simp only [cLoop] at h1
      obtain ⟨A2, S2, s2⟩ := wipe_stt (κ := some (.l (acc.map .v)) :: κ) (ς := some (.ref D) :: ς) (vs := vs) S1 (by simp [hl])
      rw [wipe_wipe] at S2
      cases ep : tg.put ds[i] (wipeE (wipeE ρ1 vs) vs) with
      | none => rw [ep] at h1; exact h1.elim
      | some ρ2 =>
        rw [ep] at h1
        simp only at h1
        have hl' : (some (V.ref D) :: ς).length = (some (OD.l (acc.map .v)) :: κ).length := by simp [hl]
        refine tgt_wipe hl' S2 rd ep hp fun σ2 A3 S3 s3 hw => ⟨by rw [hw, wipe_wipe], ?_⟩
        rw [wipe_wipe] at hw
        refine ⟨F1, ρ2, A3, _, _, S3, hl', ?_⟩
        cases ec : c ρ2 with
        | stuck => rw [ec] at h1; exact h1.elim
        | exc x' ρ3 => rw [ec] at h1; exact h1.elim
        | ok b ρ3 =>
          rw [ec] at h1
          intro F3 H3 A4 g3 S4
          have g13 : Go p F0 H0 A0 F3 H3 A4 := (((g1.less s2).less s3).trans g3).imp fun z => by simp [z, (hpp z).1]
          cases b with
          | false =>
            refine iteF ⟨by omega, by omega, ?_⟩
            obtain ⟨A5, S5, s5⟩ := wipe_stt (vs := vs) S4 hl'
            rw [hw] at S5
            exact ⟨F3, A5, acc, ρ3, S5, g13.less s5, le1.trans g3.le, h1⟩
          | true =>
            refine iteT ⟨F3, ρ3, A4, _, _, S4, hl', ?_⟩
            simp only at h1
            cases ee : e ρ3 with
            | stuck => rw [ee] at h1; exact h1.elim
            | exc x' ρ4 => rw [ee] at h1; exact h1.elim
            | ok od ρ4 =>
              rw [ee] at h1
              simp only at h1
              intro F4 H4 y A5 g4 S5
              split at h1
              · rename_i hz
                obtain ⟨F5, A6, ry, S6, g5, _⟩ := Stt.frz (p := true) S5
                obtain ⟨A7, S7, s7⟩ := wipe_stt (vs := vs) S6 hl'
                rw [hw] at S7
                obtain ⟨B, A8, ho, S8, c8, hB8⟩ := Stt.pop (show Stt G F5 H4 (some (.l (acc.map .v)) :: (κ ++ wipeE ρ4 vs)) (some (.ref D) :: (ς ++ wipe σ vs)) A7 from S7)
                simp only [OT] at ho
                obtain ⟨a, us, C, ea, hu, hots, cC⟩ := ho
                cases ea
                have ra := hots.sh (shs_v acc)
                have hBD : B D := (cC.1 D).2 (.inl rfl)
                have gg : Go p F0 H0 A0 F5 H4 A8 := ((((g13.trans g4).trans g5).less s7).less fun a z => c8.r z).imp fun z => by simp [z, (hpp z).2]
                refine ⟨us, hu, by rw [ra.len]; exact hz, by omega, by omega, ?_⟩
                exact mkHeld S8 (ra.append (.one ry)) (hB8 D hBD) (c8.2 D hBD) gg (le1.trans (g3.le.trans (g4.le.trans g5.le))) h1
              · exact h1.elim
    · left
      have e : i = yv.length := by omega
      subst e
      rw [List.drop_eq_nil_of_le (by omega)] at h1
      refine ⟨w.stop H1 p1, ?_⟩
      refine h1 F1 H1 (.ref D) A1 g1 ?_
      exact unwipe (κ := some (.l (acc.map .v)) :: κ) (ς := some (.ref D) :: ς) S1 (by simp [hl])
variable {e elt tgt iter : Expr} {ifs : List Expr} {scope : Scope} {own : List (Str × Nat)} {pos : Pos} {i : Nat} {π : List PStep}
/-- a comprehension without effects over a part -/
theorem sx_compP {tg : Tgt} {fc : M Bool} {fe : M OD} (hG : G.K = X.K) (hc : X.calm = true) (hN : X.N.Nodup) (hi : PP X G iter i π) (ok : BlkOk X.N X.env.scope scope own) (hp : ∀ i ∈ tg.ix, i ∈ own.map (·.2))
    (hg : ∀ (s : Shared) (H : Hp) (C : Addr) (cl : List (Str × Addr)) (fp : List Addr), PG (X.blk s H scope (compEnvC scope cl C X.env) fp) tgt (tg.t G.K))
    (ht : ∀ (s : Shared) (H : Hp) (C : Addr) (cl : List (Str × Addr)) (fp : List Addr), PTs (X.blk s H scope (compEnvC scope cl C X.env) fp) ifs (TB G W0 true fc))
    (he : ∀ (s : Shared) (H : Hp) (C : Addr) (cl : List (Str × Addr)) (fp : List Addr), SX (X.blk s H scope (compEnvC scope cl C X.env) fp) G W0 true elt fe) (hs : ∀ x, foldedSetIterable iter X.env x = pure x := by intro _; rfl) :
    SX X G W true (.ListComp elt [⟨tgt, iter, ifs, 0⟩] scope pos) (mComp (zItP i π) tg (own.map (·.2)) fc fe) := PE.of (pe_lc hc hN (pi_any hi) ok hg ht he hs) fun σ H Q q => by
  obtain ⟨F, ρ, A, κ, ς, S, hl, q⟩ := q
  unfold mComp zItP at q
  rw [← hG]
  cases e0 : slotAt ρ i π with
  | none => rw [e0] at q; exact q.elim
  | some s =>
    rw [e0] at q
    cases s with
    | l xs =>
      cases e3 : OD.shs xs with
      | none => simp only [e3] at q; exact q.elim
      | some ds =>
        simp only [e3, Out.bind_ok] at q
        obtain ⟨od0, e1, e2⟩ := slotAt_some e0
        obtain ⟨v0, _, _, h1, _⟩ := S.sl.at (getKap (κ := κ) e1)
        obtain ⟨w, B, C, h2, h3, c, _⟩ := S.part (getKap (κ := κ) e1) e2 h1
        rw [getSig hl] at h1
        simp only [OT] at h3
        obtain ⟨a, vs, A', rfl, ha, hots, cB⟩ := h3
        have hr := hots.sh e3
        exact ⟨v0, _, h1, h2, .inl ⟨a, vs, rfl, .inl (.of ha), comp_run2 (p := true) (wk_list (xs := vs)) S hl .refl (fun _ => ⟨rfl, rfl⟩) hr (fun F' H' A' l1 l2 g => .inl (.of (g.keep a _ ha fun n => by cases n.1))) hp q⟩⟩
    | _ => exact q.elim
end
/-! ### dicts of the module -/
section
variable {G : Gx} {W : WX} {X : Cx} {pn : List Nat} {k : Nat} {bb : Bool} {a b e : Expr} {oa ob : Opd} {pos p : Pos} {x : Str} {kvs : Kvs}
open PyProof.Rows in
theorem mt_kget {d : Addr} {es : Array DictEntry} {n : Nat} (Dk : KDict X.K X.w d es n) : MtR X "dict.get" (fun x xs H Q => ∃ (z : Str) (r : Option Value) (y : V), x = .ref d ∧ xs = [.str z, y] ∧ PySem.W.nsIn X.K d z = some r ∧ (∀ u, r = some u → ∃ v, RelV v u ∧ Q v H) ∧ (r = none → Q y H)) := by
  intro pins s σ H x xs v us Q I rx rs h
  obtain ⟨z, r, y, rfl, rfl, e, h1, h2⟩ := h
  cases rx
  obtain ⟨u1, u2, rfl, r1, r2⟩ := vals2 rs
  obtain ⟨t, rfl⟩ := r1
  have hm := PySem.W.mapOf_K (prog := X.prog) (w := X.w) I.kIn Dk.at_ Dk.lit
  refine call_meetsIn PySem.F.slot_dict_get hm.typeIs PySem.F.entry_dict_get (PySem.F.args_dict_get_3 _ _ _) (meets_dict_get_default (strKind X.prog X.w) d (strKind_is X.prog X.w z t) Dk.low u2) ⟨_, hm, ?_⟩
  rw [PySem.W.find_K Dk.at_ e]
  cases r with
  | none => exact ⟨y, H, I.tok _, r2, h2 rfl⟩
  | some u =>
    obtain ⟨v, rv, q⟩ := h1 u rfl
    exact ⟨v, H, I.tok _, rv, q⟩
open PyProof.Rows in
theorem pe_kget {d : Addr} {es0 : Array DictEntry} {n : Nat} {e : Expr} {es : List Expr} {t : TA} {o : Expr} {apos cpos : Pos} {to : TE} (Dk : KDict X.K X.w d es0 n) (ho : PE X o (tC (.ref d))) (ha : PA X (e :: es) t)
    (hbase : attributeBase o "get" X.env (eval o X.env) = eval o X.env := by rfl)
    (hfew : ((backTo cpos (starEach (e :: es) X.env)).all (fun x => !x.1) && (backToKw cpos (keywordEach [] X.env)).all (fun x => x.1.isSome)
      && decide ((e :: es).length + ([] : List Keyword).length + (if ([] : List Keyword).isEmpty then 0 else 1) < 30)) = true := by rfl)
    (hline : (apos.endLine == cpos.line) = true := by rfl) (hs : starEach (e :: es) X.env = (false, eval e X.env) :: starEach es X.env := by rfl) (hplain : (backTo cpos (starEach es X.env)).any (·.1) = false := by rfl) :
    PE X (.Call (.Attribute o "get" apos) (e :: es) [] cpos) (fun σ H Q => t σ H fun xs H1 => (∃ (z : Str) (r : Option Value) (y : V), xs = [.str z, y] ∧ PySem.W.nsIn X.K d z = some r ∧ (∀ u, r = some u → ∃ v, RelV v u ∧ Q v H1) ∧ (r = none → Q y H1))) := by
  refine ⟨fun pins s σ H Q I h => ?_⟩
  refine wpAny_Call_method_late hbase hfew hline rfl (thn (ho.run pins s σ H (fun x H1 => x = .ref d ∧ t σ H1 fun xs H1 => (∃ (z : Str) (r : Option Value) (y : V), xs = [.str z, y] ∧ PySem.W.nsIn X.K d z = some r ∧ (∀ u, r = some u → ∃ v, RelV v u ∧ Q v H1) ∧ (r = none → Q y H1))) I ⟨rfl, h⟩) fun v s1 ⟨x, H1, I1, r1, ex, q1⟩ => ?_)
  subst ex
  cases r1
  have hm := PySem.W.mapOf_K (prog := X.prog) (w := X.w) I1.kIn Dk.at_ Dk.lit
  refine ⟨"dict", "dict.get", PySem.F.plainAttrs_dict, PySem.F.slot_dict_get, PySem.F.type_dict_get, hm.typeIs, fun a e => ?_, ?_⟩
  · cases e
    exact ⟨_, I1.kIn _ _ Dk.at_, rfl⟩
  have hA := ha.run cpos pins s1 σ H1 _ I1 q1
  rw [hs] at hA ⊢
  refine Calls.callWith_builtin (by show (false || (backTo cpos (starEach es X.env)).any (·.1)) = false; rw [hplain] <;> rfl) (Calls.evalArgs_plain ?_)
  exact thn hA fun us s2 ⟨vs, H2, I2, r2, q2⟩ => by
    obtain ⟨z, r, y, e1, e2, e3, e4⟩ := q2
    exact mt_kget Dk pins s2 σ H2 (.ref d) vs (.ref d) us Q I2 rfl r2 ⟨z, r, y, rfl, e1, e2, e3, e4⟩
def opKGet (kvs : Kvs) : List D → Option OD
  | [.str z, .str y] => some (.v ((kvs.lookup z).getD (.str y)))
  | _ => none
theorem e_kget2 {apos cpos : Pos} {e1 e2 : Expr} (K : Ok X G W k bb) (D : KD G X.w x kvs) (ha : PA X [e1, e2] (tAll G W [oa, ob])) (hg : Gl X x := by rfl) (hd : (x == ("__debug__" : Str)) = false := by decide)
    (hbase : attributeBase (.Name x p) "get" X.env (eval (.Name x p) X.env) = eval (.Name x p) X.env := by rfl)
    (hfew : ((backTo cpos (starEach [e1, e2] X.env)).all (fun x => !x.1) && (backToKw cpos (keywordEach [] X.env)).all (fun x => x.1.isSome)
      && decide ([e1, e2].length + ([] : List Keyword).length + (if ([] : List Keyword).isEmpty then 0 else 1) < 30)) = true := by rfl)
    (hline : (apos.endLine == cpos.line) = true := by rfl) (hs : starEach [e1, e2] X.env = (false, eval e1 X.env) :: starEach [e2] X.env := by rfl) (hplain : (backTo cpos (starEach [e2] X.env)).any (·.1) = false := by rfl) :
    SX X G W (pAll [oa, ob]) (.Call (.Attribute (.Name x p) "get" apos) [e1, e2] [] cpos) (mApp (opKGet kvs) [oa, ob]) := by
  obtain ⟨d, es, n, m, Dk, h1, h2⟩ := D.ex
  rw [K.gm] at m
  rw [K.gK] at Dk h2
  have h1' := h1
  refine sx_app (pe_kget (to := tC (.ref d)) Dk (pe_glob hg m (show RelV (.ref d) (.ref d) from rfl) hd) ha hbase hfew hline hs hplain) (r := fun vs H Q => ∃ (z : Str) (r : Option Value) (y : V), vs = [.str z, y] ∧ PySem.W.nsIn X.K d z = some r ∧ (∀ u, r = some u → ∃ v, RelV v u ∧ Q v H) ∧ (r = none → Q y H)) (fun F H xs vs z Q le hr ez k => ?_) fun σ H Q z => z
  unfold opKGet at ez
  split at ez
  · rename_i z0 y0
    cases ez
    obtain ⟨v, w, rfl, r1, r2⟩ := hr.two
    have := repB_str r1
    subst this
    have := repB_str r2
    subst this
    cases e : kvs.lookup z0 with
    | none =>
      refine ⟨z0, none, .str y0, rfl, h2 z0 e, (fun u z => nomatch z), fun _ => ?_⟩
      rw [e] at k
      refine k F H _ (fun _ => False) (.refl le) ?_ fun _ z => z.elim
      simp only [OT, Rep, Option.getD_none]
      exact ⟨trivial, fun _ z => z⟩
    | some v0 =>
      obtain ⟨u, y, q, rv, rp⟩ := h1 z0 v0 e
      rw [K.gK] at q
      refine ⟨z0, some u, .str y0, rfl, q, fun u' e' => ?_, fun z => nomatch z⟩
      cases e'
      refine ⟨y, rv, ?_⟩
      rw [e] at k
      refine k F H _ (fun _ => False) (.refl le) ?_ fun _ z => z.elim
      simp only [OT, Option.getD_some]
      exact ⟨rp F, fun _ z => z⟩
  · cases ez
end
end Vs
namespace Vs
open PySem L2 PySem.Spec PyProof.Rows
/-! ### a walk over a dict of the module: its keys -/
structure KDo (G : Gx) (w : World) (x : Str) (kvs : Kvs) : Prop where
  ex : ∃ d es n, G.mg x = some (.ref d) ∧ KDict G.K w d es n ∧ es.toList.map He.keyOf = He.keysIn w.params (kvs.map (·.1))
theorem Ht.kdo {ts : List (Str × Kvs)} {w : World} {G : Gx} (h : Ht ts w G) (i : Nat) {x : Str} {kvs : Kvs} (e : ts[i]? = some (x, kvs) := by rfl) : KDo G w x kvs := by
  obtain ⟨p, X, N⟩ := h.at_
  have h1 := List.all_eq_true.mp h.b _ (List.mem_of_getElem? e)
  simp only [Bool.and_eq_true] at h1
  have e2 : (ts.map fun t => He.dicW G.K (He.ga G.K t.1))[i]? = (ts.map fun t => some (He.keysIn w.params (t.2.map (·.1))))[i]? := by rw [h.t]
  rw [List.getElem?_map, List.getElem?_map, e] at e2
  have e3 : He.dicW G.K (He.ga G.K x) = some (He.keysIn w.params (kvs.map (·.1))) := Option.some.inj e2
  obtain ⟨es, n, D⟩ := He.dicW_ok e3
  refine ⟨_, es, n, PySem.W.mg_of X N (He.eqO_ok h1.1), D, ?_⟩
  unfold He.dicW at e3
  rw [D.at_] at e3
  simp only [D.low, decide_true, Bool.true_and, Bool.not_false, Bool.and_true] at e3
  exact Option.some.inj e3
theorem keys_at {P : Params} {l : List DictEntry} {ks : List Str} (h : l.map He.keyOf = He.keysIn P ks) {i : Nat} {e : DictEntry} (he : l[i]? = some e) : ∃ z t, ks[i]? = some z ∧ e.key = .str z t := by
  have h1 : (l.map He.keyOf)[i]? = (He.keysIn P ks)[i]? := by rw [h]
  unfold He.keysIn at h1
  rw [List.getElem?_map, List.getElem?_map, he] at h1
  cases q : ks[i]? with
  | none => rw [q] at h1; cases h1
  | some z =>
    rw [q] at h1
    have h2 : He.keyOf e = some (z, PyData.keyHash P z) := Option.some.inj h1
    unfold He.keyOf at h2
    split at h2
    · rename_i x t qk
      obtain ⟨h5, h6⟩ := Prod.mk.inj (Option.some.inj h2)
      exact ⟨z, t, rfl, by rw [qk, h5]⟩
    · cases h2
def ItKD (zs : List Str) : It := ⟨fun i H => i < zs.length, fun i H x H' => H' = H ∧ ∃ z, zs[i]? = some z ∧ x = .str z, fun i H => zs.length ≤ i⟩
theorem wk_kd {zs : List Str} : Wk (ItKD zs) (fun _ => True) (zs.map V.str) where
  go := fun i H x _ e => by
    have := (List.getElem?_eq_some_iff.mp e).1
    show i < zs.length
    simpa using this
  yld := fun i H x y H' _ e h => by
    obtain ⟨h1, z, hz, rfl⟩ := h
    refine ⟨?_, h1⟩
    rw [List.getElem?_map, hz] at e
    exact Option.some.inj e
  stop := fun H _ => by show zs.length ≤ _; simp
section
variable {w : World} {K : PySem.W.Frag} {tg : Expr} {d : Addr} {es : Array DictEntry} {n : Nat} {P : Program} {zs : List Str}
theorem turn_kd (Dk : KDict K w d es n) (hk : es.toList.map He.keyOf = He.keysIn w.params zs) (it : Addr) : Turn P w K tg (ItKD zs) [it] it (fun i h => h.IsKeyIter it d i es.size n) where
  mem := by simp
  obj := fun i h st b hb => by
    have e : b = it := by simpa using hb
    subst e
    obtain ⟨oi, e, c, dd⟩ := st
    exact ⟨oi, e, fun v z => by rw [dd] at z; cases z⟩
  keep := fun i h h' st k => st.at fun oi e => k it (by simp) oi e
  item := by
    intro X hP hw hK hc i pins s σ H E I hf st hg
    subst hP hw hK
    obtain ⟨f0, f1, f2, f3, f4, f5⟩ := hf it (by simp)
    have hlen : es.size = zs.length := by
      have := congrArg List.length hk
      simpa [He.keysIn] using this
    have hi : i < es.size := by rw [hlen]; exact hg
    have raw : s.heap.DictRaw d es n := ⟨_, I.kIn _ _ Dk.at_, ⟨rfl, rfl, rfl⟩, rfl⟩
    obtain ⟨z, t, hz, hkey⟩ := keys_at hk (i := i) (e := es[i]) (by rw [Array.getElem?_toList]; exact Array.getElem?_eq_getElem hi)
    refine wpAny_pyNext_keys_item_raw st raw hi fun h' st' sb => ?_
    have I1 : Inv X pins σ H { s with heap := h' } := I.turned (t' := s.toks) (fun b ob hb e => (sb.2 b hb).trans e) f0 f1 f3 f4 f5
    obtain ⟨oi, e, c, dd⟩ := id st'
    exact ⟨es[i].key, rfl, go_of (s := { s with heap := h' }) e c dd (by decide) ⟨.str z, H, I1, by rw [hkey]; exact ⟨t, rfl⟩, ⟨rfl, z, hz, rfl⟩, st', fun b hb => (hf b hb).1⟩⟩
  done := by
    intro X hP hw hK hc i pins s σ H E I hf st hg
    subst hP hw hK
    obtain ⟨f0, f1, f2, f3, f4, f5⟩ := hf it (by simp)
    have hlen : es.size = zs.length := by
      have := congrArg List.length hk
      simpa [He.keysIn] using this
    exact next_key_end (I.ok.hd hc) st (I.kIn _ _ Dk.at_) rfl rfl (by rw [hlen]; exact hg) fun h' eb => ⟨rfl, I.turned (t' := s.toks) (fun b ob hb e => eb b ob hb e) f0 f1 f3 f4 f5⟩
  self := fun A i s Q E st h => wpAny_pyIter_keyiter st h
end
section
variable {G : Gx} {W : WX} {X : Cx} {pn : List Nat} {k : Nat} {bb : Bool} {x : Str} {kvs : Kvs} {elt tgt tg : Expr} {ifs : List Expr} {scope : Scope} {own : List (Str × Nat)} {pos p : Pos}
def iKD (zs : List Str) : TI := fun σ H R => R (ItKD zs) H
theorem pi_kd (K : Ok X G W k bb) (D : KDo G X.w x kvs) (hg : Gl X x := by rfl) (hd : (x == ("__debug__" : Str)) = false := by decide) : PI X tg (.Name x p) (iKD (kvs.map (·.1))) := by
  obtain ⟨d, es, n, m, Dk, hk⟩ := D.ex
  rw [K.gm] at m
  rw [K.gK] at Dk
  refine ⟨fun pins s σ H R I h => ?_⟩
  refine thn ((pe_glob hg m (show RelV (.ref d) (.ref d) from rfl) hd).run pins s σ H (fun x H1 => x = .ref d ∧ R (ItKD (kvs.map Prod.fst)) H1) I ⟨rfl, h⟩) fun u s1 ⟨y, H1, I1, rx, ey, q⟩ => ?_
  subst ey
  obtain rfl : u = Value.ref d := rx
  exact iter_keys Dk.low (I1.kIn _ _ Dk.at_) ⟨rfl, rfl, rfl⟩ rfl (pi_one (tk := s1.toks) I1 _ (turn_kd Dk hk _) ⟨_, Heap.get?_push_size _ rfl, rfl, rfl⟩ q)
def zItK (kvs : Kvs) : M (List D) := fun ρ => .ok (kvs.map fun q => .str q.1) ρ
theorem sx_compK {pc pe : Bool} {tt : Tgt} {fc : M Bool} {fe : M OD} (K : Ok X G W k true) (D : KDo G X.w x kvs) (ok : BlkOk X.N X.env.scope scope own) (hp : ∀ i ∈ tt.ix, i ∈ own.map (·.2))
    (hg : ∀ (s : Shared) (H : Hp) (C : Addr) (cl : List (Str × Addr)) (fp : List Addr), PG (X.blk s H scope (compEnvC scope cl C X.env) fp) tgt (tt.t G.K))
    (ht : ∀ (s : Shared) (H : Hp) (C : Addr) (cl : List (Str × Addr)) (fp : List Addr), PTs (X.blk s H scope (compEnvC scope cl C X.env) fp) ifs (TB G W0 pc fc))
    (he : ∀ (s : Shared) (H : Hp) (C : Addr) (cl : List (Str × Addr)) (fp : List Addr), SX (X.blk s H scope (compEnvC scope cl C X.env) fp) G W0 pe elt fe) (hs : ∀ y, foldedSetIterable (.Name x p) X.env y = pure y := by intro _; rfl) (hgl : Gl X x := by rfl) (hd : (x == ("__debug__" : Str)) = false := by decide) :
    SX X G W (pc && pe) (.ListComp elt [⟨tgt, .Name x p, ifs, 0⟩] scope pos) (mComp (zItK kvs) tt (own.map (·.2)) fc fe) := PE.of (pe_lc (K.cc rfl) K.n (pi_kd K D hgl hd) ok hg ht he hs) fun σ H Q q => by
  obtain ⟨F, ρ, A, κ, ς, S, hl, q⟩ := q
  unfold mComp zItK at q
  simp only [Out.bind_ok] at q
  have hr : Reps G F (kvs.map fun q => Vs.D.str q.1) ((kvs.map (·.1)).map V.str) := by
    rw [List.map_map]
    exact Reps.map fun c _ => by simp only [Rep, Function.comp]
  exact comp_run (p := pc && pe) wk_kd S hl .refl (fun z => by simpa using z) hr (fun _ _ _ _ => trivial) hp q
end
end Vs

/-! VsC9: startswith; evaluation of parts. -/
namespace Vs
open PySem L2 PySem.Spec PyProof.Rows
def opStarts : List D → Option OD
  | [.str a, .str b] => some (.v (.bl (Txt.startswith a b)))
  | _ => none
section
variable {G : Gx} {X : Cx}
theorem rn_starts : RN G (fun vs H Q => match vs with | x :: xs => (∃ a b, x = .str a ∧ xs = [.str b] ∧ Q (.bl (Txt.startswith a b)) H) | [] => False) opStarts := fun F H xs vs z Q le hr ez k => by
  unfold opStarts at ez
  split at ez
  · rename_i a b
    cases ez
    obtain ⟨v, w, rfl, h1, h2⟩ := hr.two
    refine ⟨a, b, repB_str h1, by rw [repB_str h2], ?_⟩
    refine k F H _ (fun _ => False) (.refl le) ?_ fun _ z => z.elim
    simp only [OT, Rep]
    exact ⟨trivial, fun _ z => z⟩
  · cases ez
end
theorem opStarts_e {a b : Str} : opStarts [.str a, .str b] = some (.v (.bl (Txt.startswith a b))) := nr rfl
theorem opKGet_e {kvs : Kvs} {z y : Str} : opKGet kvs [.str z, .str y] = some (.v ((kvs.lookup z).getD (.str y))) := nr rfl
/-! parts -/
def atmO (op : List D → Option OD) (r : Option (List D)) (ρ : Env) : Out OD := match r.bind op with
  | some z => .ok z ρ
  | none => .stuck
theorem mAtm_e {op : List D → Option OD} {as : List Atom} {ρ : Env} : mAtm op as ρ = atmO op (rdAll ρ as) ρ := by unfold mAtm atmO; rfl
theorem atmO_some {op : List D → Option OD} {ds : List D} {z : OD} {ρ : Env} (h : op ds = some z) : atmO op (some ds) ρ = .ok z ρ := by
  unfold atmO
  rw [Option.bind_some, h]
theorem rdAll_1 {i : Nat} {π : List PStep} {ρ : Env} {s : OD} {d : D} (h : slotAt ρ i π = some s) (h2 : s.sh = some d) : rdAll ρ [.p i π] = some [d] := by
  unfold rdAll Atom.rd
  simp only [h, Option.bind_some, h2, rdAll, Option.map_some]
theorem mFzP_e {i : Nat} {π : List PStep} {ρ : Env} {od s od' : OD} (h : ρ[i]?.join = some od) (h2 : od.at π = some s) (h3 : od.putAt π (.v s.fz) = some od') : mFzP i π ρ = .ok (.v s.fz) (ρ.set i (some od')) := by
  unfold mFzP
  rw [h]
  simp only [h2, h3]
theorem zItP_e {i : Nat} {π : List PStep} {ρ : Env} {xs : List OD} {ds : List D} (h : slotAt ρ i π = some (.l xs)) (h2 : OD.shs xs = some ds) : zItP i π ρ = .ok ds ρ := by
  unfold zItP
  rw [h]
  simp only [h2]
theorem zItK_e {kvs : Kvs} {ρ : Env} : zItK kvs ρ = .ok (kvs.map fun q => .str q.1) ρ := nr rfl
end Vs

/-! VsC10: l + "c" + o.replace("y", "z"). -/
namespace Vs
open PySem L2 PySem.Spec PyProof.Rows
def opRepl (y z : Str) : List D → Option OD
  | [.str x] => if x.length + (x.length + 1) * z.length ≤ 16777216 then some (.v (.str (Txt.replace x y z))) else none
  | _ => none
section
variable {G : Gx} {W : WX} {X : Cx} {k : Nat} {bb : Bool} {l o : Expr} {ol oo : Opd} {c y z : Str} {j0 j1 j2 : Nat} {c0 c1 c2 apos pos1 pos2 pos : Pos}
theorem rn_repl : RN G (RV1 fun v H Q => ∃ x, v = .str x ∧ x.length + (x.length + 1) * z.length ≤ 16777216 ∧ Q (.str (Txt.replace x y z)) H) (opRepl y z) := fun F H xs vs d Q le hr ez k => by
  unfold opRepl at ez
  split at ez
  · rename_i x
    split at ez
    · rename_i hb
      cases ez
      obtain ⟨v, rfl, h1⟩ := hr.one
      refine ⟨x, repB_str h1, hb, ?_⟩
      refine k F H _ (fun _ => False) (.refl le) ?_ fun _ z => z.elim
      simp only [OT, Rep]
      exact ⟨trivial, fun _ z => z⟩
    · cases ez
  · cases ez
theorem c_tx {d : D} {v : V} {σ : L2.St} {H : Hp} {Q : VK} (h : ∀ F, Rep G F d v) (q : TX G W true (mC d) σ H Q) : Q v H := by
  obtain ⟨F, ρ, A, κ, ς, S, hl, q⟩ := q
  exact q F H v A .refl (S.push_v (h F))
theorem e_addRepl (K : Ok X G W k bb) (hl : SO X G W l ol) (ho : SO X G W o oo) (hyz : (y == z) = false := by decide)
    (hst : starEach [.Constant (.str y) j1 c1, .Constant (.str z) j2 c2] X.env = [(false, eval (.Constant (.str y) j1 c1) X.env), (false, eval (.Constant (.str z) j2 c2) X.env)] := by rfl)
    (hbase : attributeBase o "replace" X.env (eval o X.env) = eval o X.env := by rfl) (hline : (apos.endLine == pos2.line) = true := by rfl) :
    SX X G W (pAll [.val (pAll [ol, .val true (mC (.str c))]) (mApp opAdd [ol, .val true (mC (.str c))]), .val (pAll [oo]) (mApp (opRepl y z) [oo])])
      (.BinOp (.BinOp l .Add (.Constant (.str c) j0 c0) pos1) .Add (.Call (.Attribute o "replace" apos) [.Constant (.str y) j1 c1, .Constant (.str z) j2 c2] [] pos2) pos)
      (mApp opAdd [.val (pAll [ol, .val true (mC (.str c))]) (mApp opAdd [ol, .val true (mC (.str c))]), .val (pAll [oo]) (mApp (opRepl y z) [oo])]) := by
  have hop := op_addA (X := X)
  have hrn := rn_addA (G := G) K.gK
  have hr := CwR.pet_replC (X := X) ho hyz hst hbase hline
  constructor
  intro pins s σ H Q I q
  have q1 := app_tx hrn q
  have q2 : TX G W (pAll [ol, .val true (mC (.str c))]) (mApp opAdd [ol, .val true (mC (.str c))]) σ H fun x H1 => TX G W (pAll [oo]) (mApp (opRepl y z) [oo]) σ H1 fun u H2 => _ := q1
  have q3 := TX.mono q2 fun x H1 h => app_tx rn_repl h
  have q4 := app_tx hrn q3
  refine wpAny_BinOp (wpAny_BinOp (thn (hl.run pins s σ H _ I q4) fun u1 s1 ⟨x1, H1, I1, r1, q5⟩ => ?_))
  have q6 := c_tx (v := .str c) (fun F => by simp only [Rep]) q5
  refine Calls.Constant_str ?_
  refine wpAny_mono (PySem.wpAny_toks (hop pins { s1 with toks := s1.toks + 1 } σ H1 x1 (.str c) u1 (.str c s1.toks) _ (I1.tok _) r1 ⟨_, rfl⟩ q6)) (fun v2 s3 w => ?_) fun _ _ z => z.2
  obtain ⟨ht, x2, H3, I3, r3, q7⟩ := w
  have h0 : 1 ≤ s3.toks := Nat.le_trans (Nat.succ_le_succ (Nat.zero_le _)) ht
  exact thn (hr pins s3 σ H3 (fun x4 H4 => rAddA X.K x2 x4 H4 Q) h0 I3 q7) fun u4 s4 ⟨x4, H4, I4, r4, q9⟩ => hop pins s4 σ H4 x2 x4 v2 u4 Q I4 r3 r4 q9
end
end Vs

/-! VsC11: o.f.append(("c", o.g.pop())). -/
namespace Vs
open PySem L2 PySem.Spec PyProof.Rows
/-- instances stay as they are -/
def InsK (H H1 : Hp) : Prop := ∀ a C dx fvs, H a = some (.ins C dx fvs) → H1 a = some (.ins C dx fvs)
section
variable {G : Gx} {W : WX} {pn : List Nat} {F F' F1 F2 F3 H H' H1 H2 H3 : Hp} {A A' A1 A2 A3 B : AS} {ρ ρ' κ : Vs.Env} {σ ς : L2.St} {X : Cx} {st : Stmt} {e b : Expr} {pos p q : Pos} {x f : Str} {i : Nat} {π : List PStep} {k : Nat}
theorem lead_fld {c f : Str} {v w : V} (h : Lead G H [.fld c f] v w) (k : InsK H H') : Lead G H' [.fld c f] v w := by
  obtain ⟨a, C, dx, fvs, u, rfl, m, e1, e2, e3⟩ := h
  exact ⟨a, C, dx, fvs, u, rfl, m, k _ _ _ _ e1, e2, e3⟩
theorem pop_raw {Q : VK} (z : TX G W false (mPop i π) σ H fun v H1 => InsK H H1 → Q v H1) : tBM0 X.K "list" rPop (tPath G i π) σ H Q := by
  obtain ⟨F, ρ, A, κ, ς, S, hl, z⟩ := z
  unfold mPop at z
  split at z
  · rename_i od e0
    split at z
    · rename_i xs e1
      split at z
      · rename_i y od' e2 e3
        have e0' := getKap (κ := κ) (join_some e0)
        obtain ⟨v0, A1, A2, h1, _⟩ := S.sl.at e0'
        obtain ⟨w, B, C, h2, h3, cA, back⟩ := S.part e0' e1 h1
        have h1' := h1
        rw [getSig hl] at h1'
        simp only [OT] at h3
        obtain ⟨a, vs, B1, rfl, ha, hots, cB⟩ := h3
        refine ⟨v0, _, h1', h2, .inl ⟨rfl, vs, .of ha⟩, ?_⟩
        obtain ⟨u, D1, D2, e4, ho, hots2, cD⟩ := hots.unsnoc e2
        refine ⟨a, vs, u, rfl, rfl, ha, e4, ?_⟩
        have hna : ∀ b, B1 b → b ≠ a := fun b z y => cB.2 b y z
        have hF : ∀ b, A b → F b = none := S.fr
        have le : Le F (upd H a (.lst vs.dropLast)) := fun b o q => by
          have : b ≠ a := fun y => by rw [y, hF a (cA.l (cB.l rfl))] at q; cases q
          rw [upd_ne this]; exact S.le b o q
        obtain ⟨A', S', hA'⟩ := back F (upd H a (.lst vs.dropLast)) (.l xs.dropLast) od' (fun b => b = a ∨ D2 b) e3 (.refl _) le (fun b z => upd_ne fun y => cA.2 b (cB.l y) z) (by
          simp only [OT]
          exact ⟨a, _, D2, rfl, upd_same, hots2.mono (.refl _) fun b z => upd_ne (hna b (cD.r z)), .mk' _ _ fun b y z => hna b (cD.r z) y⟩)
          (fun b z y => cA.2 b (z.elim (fun z => cB.l z) fun z => cB.r (cD.r z)) y) (fun b z => hF b (cA.l (z.elim (fun z => cB.l z) fun z => cB.r (cD.r z)))) (fun b z => hF b (cA.r z))
        rw [setKap] at S'
        have ho' : OT G F (upd H a (.lst vs.dropLast)) y u D1 := ho.mono (.refl _) fun b z => upd_ne (hna b (cD.l z))
        obtain ⟨A3, S3, hA3⟩ := S'.push ho' fun b z => ⟨hF b (cA.l (cB.r (cD.l z))), fun y => ((hA' b).1 y).elim (fun y => y.elim (fun y => hna b (cD.l z) y) fun y => cD.2 b z y) fun y => cA.2 b (cB.r (cD.l z)) y⟩
        refine z F _ u A3 ⟨.refl _, fun b o q n => ?_, fun b z => .inl ?_, fun _ _ z => .inl z⟩ S3 (fun b C dx fvs q => ?_)
        · have : b ≠ a := fun y => n ⟨rfl, y ▸ cA.l (cB.l rfl)⟩
          rw [upd_ne this]; exact q
        · rcases (hA3 b).1 z with z | z
          · exact cA.l (cB.r (cD.l z))
          · rcases (hA' b).1 z with z | z
            · exact cA.l (z.elim (fun z => cB.l z) fun z => cB.r (cD.r z))
            · exact cA.r z
        · have : b ≠ a := fun y => by rw [y, ha] at q; cases q
          rw [upd_ne this]; exact q
      · exact z.elim
    · exact z.elim
  · exact z.elim

open VsEv in
theorem tupPop_e {c : Str} {π2 : List PStep} : mTup [.val true (mC (.str c)), .val false (mPop i π2)] ρ = (mPop i π2 ρ).bind fun y ρ1 => .ok (.v (.tup [.str c, y.fz])) ρ1 := by
  generalize hm : mPop i π2 = m
  cases h : m ρ with
  | stuck => simp only [↓bind_e, bindL_ok, bindL_exc, bindL_stuck, defM_e, mApp_e, mBm_e, mTake_e, mC_e, mVar_e, gotV_some, mFz_e, asB_e, isB_bl, mB_e, bAnd_e, bOr_e, bNot_e, mIf_e, zNext_e, zBreak_e, zCont_e, thenS_nx, thenS_rt, thenS_bk, thenS_ct, zSeq_e, zSet_e, zRet_e, zRetN_e, zDrop_e, zIf_e, zSetIx_e, zForIn_e, zLoop_nx, zLoop_ct, zLoop_bk, zLoop_rt, ofO_some, ofS_some, ofI_some, zIt_e, zRng1_e, callO_some, retO_ok, retO_exc, mCall_e, takeP_some, takeAll_nil, takeAll_own, takeAll_plc, putP_none, putBack_plc, putBack_own, putBack_nil, retD_rt, retD_nx, retD_exc, opIx_lst, opIx_rol, opIx_tup, opEq_int, opNe_int, opEq_str, opNe_str, opAdd_int, opSub_int, opLt_int, opLe_int, opGt_int, opGe_int, opAbs_int, opInt_int, opInt_bl, opLen_lst, opLen_rol, opLen_tup, opList_lst, opList_rol, opList_tup, fz_v, fz_l, fzs_nil, fzs_cons, fzs_mv, shs_nil, shs_cons, shs_v, sh_v, sh_l, ev_val, ev_plc, evAll_nil, evAll_cons, okPl_nil, okPl_val, okPl_plc, res_nil, res_own, res_plc, putS_e, putIx_l, back_nil, back_t, back_f, tgt_name, tgt_tup, setAll_nil, setAll_cons, items_lst, items_tup, items_str, slotIs, T_str, T_list, T_dict, T_int, isKd, kdOf, beq_self_eq_true, kLst_e, kLstO_e, kTup_e, mLst_e, mLstO_e, mTup_e, mDict_e, wipeE_nil, wipeE_cons, atI_0, ixN_0, atI_1, ixN_1, atI_2, ixN_2, atI_3, ixN_3, atI_4, ixN_4, atI_5, ixN_5, atI_6, ixN_6, atI_7, ixN_7, atI_8, ixN_8, atI_9, ixN_9, atI_10, ixN_10, atI_11, ixN_11, atI_12, ixN_12, atI_13, ixN_13, atI_14, ixN_14, atI_15, ixN_15, ixN_nat, atI_ofNat, opMul_r, opMul_l, opFdv_p, opMod_p, opPow_10_18, or_true, true_or, Int.reduceLT, Int.reduceNeg, Int.reduceLE, Int.reducePow, Int.reduceEq, Int.natAbs, Int.reduceAbs, N.Out_bind_ok, N.Out_bind_exc, N.Out_bind_stuck, N.Option_map_some, N.Option_map_none, N.Option_bind_some, N.Option_bind_none, N.Option_join_some, N.Option_isSome_some, Bool.and_true, Bool.true_and, Bool.and_self, Bool.or_true, Bool.true_or, Bool.or_false, Bool.false_or, Bool.not_true, Bool.not_false, Bool.false_eq_true, if_true, if_false, ite_true, ite_false, N.List_length_cons, N.List_length_nil, N.List_map_cons, N.List_map_nil, N.List_cons_append, N.List_nil_append, List.replicate, N.List_getElemQ_cons_zero, N.List_getElemQ_cons_succ, N.List_set_cons_zero, N.List_set_cons_succ, decide_true, decide_false, reduceIte, Nat.reduceAdd, Nat.reduceSub, Nat.reduceLT, Nat.reduceLeDiff, Nat.reduceEqDiff, Nat.zero_add, Nat.succ_eq_add_one, eq_self, ne_eq, not_true_eq_false, not_false_eq_true, and_self, and_true, true_and, isi_str_non, isi_str_bl, isi_str_int, isi_str_str, isi_str_tup, isi_str_lst, isi_str_rol, isi_str_dk, isi_int_non, isi_int_bl, isi_int_int, isi_int_str, isi_int_tup, isi_int_lst, isi_int_rol, isi_int_dk, isi_bool_non, isi_bool_bl, isi_bool_int, isi_bool_str, isi_bool_tup, isi_bool_lst, isi_bool_rol, isi_bool_dk, isi_tuple_non, isi_tuple_bl, isi_tuple_int, isi_tuple_str, isi_tuple_tup, isi_tuple_lst, isi_tuple_rol, isi_tuple_dk, isi_list_non, isi_list_bl, isi_list_int, isi_list_str, isi_list_tup, isi_list_lst, isi_list_rol, isi_list_dk, isi_dict_non, isi_dict_bl, isi_dict_int, isi_dict_str, isi_dict_tup, isi_dict_lst, isi_dict_rol, isi_dict_dk, opIsN_bl, opNotN_bl, opIsN_int, opNotN_int, opIsN_str, opNotN_str, opIsN_tup, opNotN_tup, opIsN_lst, opNotN_lst, opIsN_rol, opNotN_rol, opIsN_dk, opNotN_dk, opIsN_non, opNotN_non, opMin_int, opMax_int, opNeg_int, opTuple_lst, opTuple_rol, opTuple_tup, opLen_dk, opLt_str, opLe_str, opIn_1, opIn_dk, opIn_dki, opIn_dkn, mChain_e, chainC_e, chainD_e, gLe_e, gLt_e, isLs_l, zApp_e, mvO_some, mMv_o, slotAt_e, getP_v, mGet_e, mPop_e, popP_snoc, zAppP_e, zTryAs_e, tryA_ok, zRaise0_e, Bool.false_xor, Bool.true_xor, decide_not, Bool.not_not, or_false, false_or, false_and, and_false, natCast_0, natCast_1, natCast_2, natCast_3, natCast_4, natCast_5, natCast_6, natCast_7, natCast_8, natCast_9, natCast_10, natCast_11, natCast_12, natCast_13, natCast_14, natCast_15, natCast_16, natCast_17, natCast_18, natCast_19, natCast_20, natCast_21, natCast_22, natCast_23, natCast_24, natCast_25, natCast_26, natCast_27, natCast_28, natCast_29, natCast_30, opTru_non, opTru_bl, opTru_int, opTru_tup, opTru_lst, opTru_rol, shs_map, shs_mapf, fzs_mapf, mTakeO_e, mLstQ_e, takeQ_some, takeO_nil, takeO_own, takeO_plc, opListA_lst, opListA_rol, opListA_tup, opListA_dk, mDict0_e, zAug_e, augO_int, fAdd_e, fSub_e, zSetF_e, zAugF_e, augFO_int, augFP_int, mMake_e, opKIn_e, opKIx_e, opDictA_lst, opDictA_dk, h]
  | exc y ρ1 => simp only [↓bind_e, bindL_ok, bindL_exc, bindL_stuck, defM_e, mApp_e, mBm_e, mTake_e, mC_e, mVar_e, gotV_some, mFz_e, asB_e, isB_bl, mB_e, bAnd_e, bOr_e, bNot_e, mIf_e, zNext_e, zBreak_e, zCont_e, thenS_nx, thenS_rt, thenS_bk, thenS_ct, zSeq_e, zSet_e, zRet_e, zRetN_e, zDrop_e, zIf_e, zSetIx_e, zForIn_e, zLoop_nx, zLoop_ct, zLoop_bk, zLoop_rt, ofO_some, ofS_some, ofI_some, zIt_e, zRng1_e, callO_some, retO_ok, retO_exc, mCall_e, takeP_some, takeAll_nil, takeAll_own, takeAll_plc, putP_none, putBack_plc, putBack_own, putBack_nil, retD_rt, retD_nx, retD_exc, opIx_lst, opIx_rol, opIx_tup, opEq_int, opNe_int, opEq_str, opNe_str, opAdd_int, opSub_int, opLt_int, opLe_int, opGt_int, opGe_int, opAbs_int, opInt_int, opInt_bl, opLen_lst, opLen_rol, opLen_tup, opList_lst, opList_rol, opList_tup, fz_v, fz_l, fzs_nil, fzs_cons, fzs_mv, shs_nil, shs_cons, shs_v, sh_v, sh_l, ev_val, ev_plc, evAll_nil, evAll_cons, okPl_nil, okPl_val, okPl_plc, res_nil, res_own, res_plc, putS_e, putIx_l, back_nil, back_t, back_f, tgt_name, tgt_tup, setAll_nil, setAll_cons, items_lst, items_tup, items_str, slotIs, T_str, T_list, T_dict, T_int, isKd, kdOf, beq_self_eq_true, kLst_e, kLstO_e, kTup_e, mLst_e, mLstO_e, mTup_e, mDict_e, wipeE_nil, wipeE_cons, atI_0, ixN_0, atI_1, ixN_1, atI_2, ixN_2, atI_3, ixN_3, atI_4, ixN_4, atI_5, ixN_5, atI_6, ixN_6, atI_7, ixN_7, atI_8, ixN_8, atI_9, ixN_9, atI_10, ixN_10, atI_11, ixN_11, atI_12, ixN_12, atI_13, ixN_13, atI_14, ixN_14, atI_15, ixN_15, ixN_nat, atI_ofNat, opMul_r, opMul_l, opFdv_p, opMod_p, opPow_10_18, or_true, true_or, Int.reduceLT, Int.reduceNeg, Int.reduceLE, Int.reducePow, Int.reduceEq, Int.natAbs, Int.reduceAbs, N.Out_bind_ok, N.Out_bind_exc, N.Out_bind_stuck, N.Option_map_some, N.Option_map_none, N.Option_bind_some, N.Option_bind_none, N.Option_join_some, N.Option_isSome_some, Bool.and_true, Bool.true_and, Bool.and_self, Bool.or_true, Bool.true_or, Bool.or_false, Bool.false_or, Bool.not_true, Bool.not_false, Bool.false_eq_true, if_true, if_false, ite_true, ite_false, N.List_length_cons, N.List_length_nil, N.List_map_cons, N.List_map_nil, N.List_cons_append, N.List_nil_append, List.replicate, N.List_getElemQ_cons_zero, N.List_getElemQ_cons_succ, N.List_set_cons_zero, N.List_set_cons_succ, decide_true, decide_false, reduceIte, Nat.reduceAdd, Nat.reduceSub, Nat.reduceLT, Nat.reduceLeDiff, Nat.reduceEqDiff, Nat.zero_add, Nat.succ_eq_add_one, eq_self, ne_eq, not_true_eq_false, not_false_eq_true, and_self, and_true, true_and, isi_str_non, isi_str_bl, isi_str_int, isi_str_str, isi_str_tup, isi_str_lst, isi_str_rol, isi_str_dk, isi_int_non, isi_int_bl, isi_int_int, isi_int_str, isi_int_tup, isi_int_lst, isi_int_rol, isi_int_dk, isi_bool_non, isi_bool_bl, isi_bool_int, isi_bool_str, isi_bool_tup, isi_bool_lst, isi_bool_rol, isi_bool_dk, isi_tuple_non, isi_tuple_bl, isi_tuple_int, isi_tuple_str, isi_tuple_tup, isi_tuple_lst, isi_tuple_rol, isi_tuple_dk, isi_list_non, isi_list_bl, isi_list_int, isi_list_str, isi_list_tup, isi_list_lst, isi_list_rol, isi_list_dk, isi_dict_non, isi_dict_bl, isi_dict_int, isi_dict_str, isi_dict_tup, isi_dict_lst, isi_dict_rol, isi_dict_dk, opIsN_bl, opNotN_bl, opIsN_int, opNotN_int, opIsN_str, opNotN_str, opIsN_tup, opNotN_tup, opIsN_lst, opNotN_lst, opIsN_rol, opNotN_rol, opIsN_dk, opNotN_dk, opIsN_non, opNotN_non, opMin_int, opMax_int, opNeg_int, opTuple_lst, opTuple_rol, opTuple_tup, opLen_dk, opLt_str, opLe_str, opIn_1, opIn_dk, opIn_dki, opIn_dkn, mChain_e, chainC_e, chainD_e, gLe_e, gLt_e, isLs_l, zApp_e, mvO_some, mMv_o, slotAt_e, getP_v, mGet_e, mPop_e, popP_snoc, zAppP_e, zTryAs_e, tryA_ok, zRaise0_e, Bool.false_xor, Bool.true_xor, decide_not, Bool.not_not, or_false, false_or, false_and, and_false, natCast_0, natCast_1, natCast_2, natCast_3, natCast_4, natCast_5, natCast_6, natCast_7, natCast_8, natCast_9, natCast_10, natCast_11, natCast_12, natCast_13, natCast_14, natCast_15, natCast_16, natCast_17, natCast_18, natCast_19, natCast_20, natCast_21, natCast_22, natCast_23, natCast_24, natCast_25, natCast_26, natCast_27, natCast_28, natCast_29, natCast_30, opTru_non, opTru_bl, opTru_int, opTru_tup, opTru_lst, opTru_rol, shs_map, shs_mapf, fzs_mapf, mTakeO_e, mLstQ_e, takeQ_some, takeO_nil, takeO_own, takeO_plc, opListA_lst, opListA_rol, opListA_tup, opListA_dk, mDict0_e, zAug_e, augO_int, fAdd_e, fSub_e, zSetF_e, zAugF_e, augFO_int, augFP_int, mMake_e, opKIn_e, opKIx_e, opDictA_lst, opDictA_dk, h]
  | ok y ρ1 => simp only [↓bind_e, bindL_ok, bindL_exc, bindL_stuck, defM_e, mApp_e, mBm_e, mTake_e, mC_e, mVar_e, gotV_some, mFz_e, asB_e, isB_bl, mB_e, bAnd_e, bOr_e, bNot_e, mIf_e, zNext_e, zBreak_e, zCont_e, thenS_nx, thenS_rt, thenS_bk, thenS_ct, zSeq_e, zSet_e, zRet_e, zRetN_e, zDrop_e, zIf_e, zSetIx_e, zForIn_e, zLoop_nx, zLoop_ct, zLoop_bk, zLoop_rt, ofO_some, ofS_some, ofI_some, zIt_e, zRng1_e, callO_some, retO_ok, retO_exc, mCall_e, takeP_some, takeAll_nil, takeAll_own, takeAll_plc, putP_none, putBack_plc, putBack_own, putBack_nil, retD_rt, retD_nx, retD_exc, opIx_lst, opIx_rol, opIx_tup, opEq_int, opNe_int, opEq_str, opNe_str, opAdd_int, opSub_int, opLt_int, opLe_int, opGt_int, opGe_int, opAbs_int, opInt_int, opInt_bl, opLen_lst, opLen_rol, opLen_tup, opList_lst, opList_rol, opList_tup, fz_v, fz_l, fzs_nil, fzs_cons, fzs_mv, shs_nil, shs_cons, shs_v, sh_v, sh_l, ev_val, ev_plc, evAll_nil, evAll_cons, okPl_nil, okPl_val, okPl_plc, res_nil, res_own, res_plc, putS_e, putIx_l, back_nil, back_t, back_f, tgt_name, tgt_tup, setAll_nil, setAll_cons, items_lst, items_tup, items_str, slotIs, T_str, T_list, T_dict, T_int, isKd, kdOf, beq_self_eq_true, kLst_e, kLstO_e, kTup_e, mLst_e, mLstO_e, mTup_e, mDict_e, wipeE_nil, wipeE_cons, atI_0, ixN_0, atI_1, ixN_1, atI_2, ixN_2, atI_3, ixN_3, atI_4, ixN_4, atI_5, ixN_5, atI_6, ixN_6, atI_7, ixN_7, atI_8, ixN_8, atI_9, ixN_9, atI_10, ixN_10, atI_11, ixN_11, atI_12, ixN_12, atI_13, ixN_13, atI_14, ixN_14, atI_15, ixN_15, ixN_nat, atI_ofNat, opMul_r, opMul_l, opFdv_p, opMod_p, opPow_10_18, or_true, true_or, Int.reduceLT, Int.reduceNeg, Int.reduceLE, Int.reducePow, Int.reduceEq, Int.natAbs, Int.reduceAbs, N.Out_bind_ok, N.Out_bind_exc, N.Out_bind_stuck, N.Option_map_some, N.Option_map_none, N.Option_bind_some, N.Option_bind_none, N.Option_join_some, N.Option_isSome_some, Bool.and_true, Bool.true_and, Bool.and_self, Bool.or_true, Bool.true_or, Bool.or_false, Bool.false_or, Bool.not_true, Bool.not_false, Bool.false_eq_true, if_true, if_false, ite_true, ite_false, N.List_length_cons, N.List_length_nil, N.List_map_cons, N.List_map_nil, N.List_cons_append, N.List_nil_append, List.replicate, N.List_getElemQ_cons_zero, N.List_getElemQ_cons_succ, N.List_set_cons_zero, N.List_set_cons_succ, decide_true, decide_false, reduceIte, Nat.reduceAdd, Nat.reduceSub, Nat.reduceLT, Nat.reduceLeDiff, Nat.reduceEqDiff, Nat.zero_add, Nat.succ_eq_add_one, eq_self, ne_eq, not_true_eq_false, not_false_eq_true, and_self, and_true, true_and, isi_str_non, isi_str_bl, isi_str_int, isi_str_str, isi_str_tup, isi_str_lst, isi_str_rol, isi_str_dk, isi_int_non, isi_int_bl, isi_int_int, isi_int_str, isi_int_tup, isi_int_lst, isi_int_rol, isi_int_dk, isi_bool_non, isi_bool_bl, isi_bool_int, isi_bool_str, isi_bool_tup, isi_bool_lst, isi_bool_rol, isi_bool_dk, isi_tuple_non, isi_tuple_bl, isi_tuple_int, isi_tuple_str, isi_tuple_tup, isi_tuple_lst, isi_tuple_rol, isi_tuple_dk, isi_list_non, isi_list_bl, isi_list_int, isi_list_str, isi_list_tup, isi_list_lst, isi_list_rol, isi_list_dk, isi_dict_non, isi_dict_bl, isi_dict_int, isi_dict_str, isi_dict_tup, isi_dict_lst, isi_dict_rol, isi_dict_dk, opIsN_bl, opNotN_bl, opIsN_int, opNotN_int, opIsN_str, opNotN_str, opIsN_tup, opNotN_tup, opIsN_lst, opNotN_lst, opIsN_rol, opNotN_rol, opIsN_dk, opNotN_dk, opIsN_non, opNotN_non, opMin_int, opMax_int, opNeg_int, opTuple_lst, opTuple_rol, opTuple_tup, opLen_dk, opLt_str, opLe_str, opIn_1, opIn_dk, opIn_dki, opIn_dkn, mChain_e, chainC_e, chainD_e, gLe_e, gLt_e, isLs_l, zApp_e, mvO_some, mMv_o, slotAt_e, getP_v, mGet_e, mPop_e, popP_snoc, zAppP_e, zTryAs_e, tryA_ok, zRaise0_e, Bool.false_xor, Bool.true_xor, decide_not, Bool.not_not, or_false, false_or, false_and, and_false, natCast_0, natCast_1, natCast_2, natCast_3, natCast_4, natCast_5, natCast_6, natCast_7, natCast_8, natCast_9, natCast_10, natCast_11, natCast_12, natCast_13, natCast_14, natCast_15, natCast_16, natCast_17, natCast_18, natCast_19, natCast_20, natCast_21, natCast_22, natCast_23, natCast_24, natCast_25, natCast_26, natCast_27, natCast_28, natCast_29, natCast_30, opTru_non, opTru_bl, opTru_int, opTru_tup, opTru_lst, opTru_rol, shs_map, shs_mapf, fzs_mapf, mTakeO_e, mLstQ_e, takeQ_some, takeO_nil, takeO_own, takeO_plc, opListA_lst, opListA_rol, opListA_tup, opListA_dk, mDict0_e, zAug_e, augO_int, fAdd_e, fSub_e, zSetF_e, zAugF_e, augFO_int, augFP_int, mMake_e, opKIn_e, opKIx_e, opDictA_lst, opDictA_dk, h]
theorem z_appPop {c C0 f : Str} {π2 : List PStep} (hG : G.K = X.K) (h : PS X st (tDrop (tBM X.K "list" rAppend (tPath G i [.fld C0 f]) (tCons (tTup (tCons (tC (.str c)) (tCons (tBM0 X.K "list" rPop (tPath G i π2)) tNil))) tNil)))) :
    SS X G W pn st (zAppP i [.fld C0 f] (mTup [.val true (mC (.str c)), .val false (mPop i π2)])) := PS.of h fun D σ H z => by
  obtain ⟨F, ρ, A, S, z⟩ := z
  unfold zAppP at z
  rw [tupPop_e] at z
  split at z
  · rename_i ys e0
    obtain ⟨od0, e1, e2⟩ := slotAt_some e0
    obtain ⟨v0, _, _, h1, _⟩ := S.sl.at e1
    obtain ⟨w, B0, C0', h2, h3, _⟩ := S.part e1 e2 h1
    have h3' := h3
    simp only [OT] at h3'
    obtain ⟨a, vs0, _, rfl, ha0, _⟩ := h3'
    refine ⟨v0, _, h1, h2, .inl ⟨rfl, vs0, .of ha0⟩, ?_⟩
    refine pop_raw (W := W) (Q := fun y H2 => 2 ≤ sizeLine ∧ ∀ p, H2 p = none → rAppend (.ref a) [.ref p] (upd H2 p (.tup [.str c, y])) fun _ H3 => D.nx σ H3) ?_
    have z' : Fin G W pn D F H A σ ((mPop i π2 ρ).bind fun y ρ1 => (match ρ1[i]?.join with
      | some od => match od.at [.fld C0 f] with
        | some (.l xs) => match od.putAt [.fld C0 f] (.l (xs ++ [.v (.tup [.str c, y.fz])])) with
          | some od' => if xs.length < sizeLine then .ok .nx (ρ1.set i (some od')) else .stuck
          | none => .stuck
        | _ => .stuck
      | none => .stuck)) := by
      cases hm : mPop i π2 ρ with
      | stuck => rw [hm] at z; exact z
      | exc x ρ' => rw [hm] at z; exact z
      | ok y ρ' => rw [hm] at z; exact z
    refine TX.then S z' fun y ρ1 F1 H1 x A1 e3 g1 S1 z => ?_
    intro ik
    refine ⟨by decide, fun p hp => ?_⟩
    obtain ⟨F2, A2, hr, S2, g2, le2⟩ := Stt.frz (p := false) S1
    have n : New F2 H1 (upd F2 p (.tup [.str c, x])) (upd H1 p (.tup [.str c, x])) := .frz S2.le hp
    have rt : Rep G (upd F2 p (.tup [.str c, x])) (.tup [.str c, y.fz]) (.ref p) := by
      simp only [Rep, Reps]
      exact ⟨p, _, rfl, .of upd_same, _, _, rfl, rfl, _, _, rfl, hr.mono n.lf, rfl⟩
    have S3 := (S2.new n).push_v rt
    have ik2 : InsK H (upd H1 p (.tup [.str c, x])) := fun b C dx fvs q => by
      have q1 := ik b C dx fvs q
      have : b ≠ p := fun y => by rw [y, hp] at q1; cases q1
      rw [upd_ne this]; exact q1
    split at z
    · rename_i od q1
      split at z
      · rename_i xs q2
        split at z
        · rename_i od' q3
          split at z
          · rename_i hz
            obtain ⟨B, A0, hv, S0, c0, hB⟩ := S3.pop
            obtain ⟨w1, B1, C1, h4, h5, cA, back⟩ := S0.part (join_some q1) q2 h1
            have hw : w1 = .ref a := Lead.det h4 (lead_fld h2 ik2)
            subst hw
            simp only [OT] at h5
            obtain ⟨a', vs, D1, ea, ha, hots, cB⟩ := h5
            cases ea
            have haA : A0 a := cA.l (cB.l rfl)
            have hna : ∀ b, D1 b → b ≠ a := fun b z y => cB.2 b y z
            have hBa : ∀ b, B b → b ≠ a := fun b z y => c0.2 b z (y ▸ haA)
            refine ⟨a, vs, .ref p, rfl, rfl, ha, by rw [hots.len]; exact hz, ?_⟩
            obtain ⟨A', S', hA'⟩ := back _ (upd (upd H1 p (.tup [.str c, x])) a (.lst (vs ++ [.ref p]))) (.l (xs ++ [.v (.tup [.str c, y.fz])])) od' (fun b => b = a ∨ (D1 b ∨ B b)) q3 (.refl _) (le_write S0 haA) (fun b z => upd_ne fun y => cA.2 b (cB.l y) z) (by
              simp only [OT]
              refine ⟨a, _, fun b => D1 b ∨ B b, rfl, upd_same, ?_, .mk' _ _ fun b y z => z.elim (fun z => hna b z y) fun z => hBa b z y⟩
              exact OTs.snoc (hots.mono (.refl _) fun b z => upd_ne (hna b z)) (hv.mono (.refl _) fun b z => upd_ne (hBa b z)) (.mk' _ _ fun b z y => c0.2 b y (cA.l (cB.r z))))
              (fun b z y => z.elim (fun z => cA.2 b (cB.l z) y) fun z => z.elim (fun z => cA.2 b (cB.r z) y) fun z => c0.2 b z (cA.r y))
              (fun b z => z.elim (fun z => S0.fr b (z ▸ haA)) fun z => z.elim (fun z => S0.fr b (cA.l (cB.r z))) fun z => hB b z) (fun b z => S0.fr b (cA.r z))
            have gN := n.go (p := false) (A := A2)
            refine z _ _ σ A' ((g2.trans gN).trans (go_write (A0 := A0) (c0.r haA) fun b z => ?_)) .refl S'
            rcases (hA' b).1 z with (z | z | z) | z
            · exact c0.r (z ▸ haA)
            · exact c0.r (cA.l (cB.r z))
            · exact c0.l z
            · exact c0.r (cA.r z)
          · exact z.elim
        · exact z.elim
      · exact z.elim
    · exact z.elim
  · exact z.elim
end
end Vs

/-! VsC12: evaluation: methods with one argument. -/
namespace Vs
open PySem L2
theorem mMeth1_ok {i : Nat} {c m : Str} {f : FnM} {ρ : Env} {fs : List Str} {xs : List OD} {p : Bool} {fv : M OD} {a od : OD} {x y : Option OD} (h : ρ[i]? = some (some (.o c fs xs))) (hm : fs.contains m = false) (ha : fv ρ = .ok a ρ) (e : f [.o c fs xs, .v a.fz] = .ok od [x, y]) : mMeth c m f (.plc i) [.val p fv] ρ = .ok od (ρ.set i x) := by
  have hi : i < ρ.length := (List.getElem?_eq_some_iff.mp h).1
  have h1 : okPl ρ [.plc i, .val p fv] = true := by simp [okPl, slotIs, h]
  unfold mMeth
  rw [if_pos h1]
  show (if isIns c m ρ (.plc i) = true then _ else _) = _
  have h2 : isIns c m ρ (.plc i) = true := by
    unfold isIns
    simp only [h, Option.join_some, beq_self_eq_true, hm, Bool.not_false, Bool.and_true]
  rw [if_pos h2]
  have h3 : evAll [.val p fv] ρ = .ok [.own a] ρ := by
    simp only [evAll, Opd.ev, ha, Out.bind_ok]
  rw [h3, Out.bind_ok]
  unfold doCall
  simp only [takeAll, h, Option.map_some, e]
  have h4 : (ρ.set i none)[i]? = some none := List.getElem?_set_self hi
  have h5 : putBack [.plc i, .own a] [x, y] (ρ.set i none) = ρ.set i x := by
    simp only [putBack, h4]
    rw [List.set_set]
  rw [h5]
end Vs

/-! VsC13: dicts with owned entries: {"k": []}, d["k"] = v; xs[::-1]. (d["k"].append(v) is a path with .ky.) -/
namespace Vs
open PySem L2 PySem.Spec PyProof.Rows
/-! d["k"] = v, the key is there -/
def zSetK (i : Nat) (s : Str) (fv : M OD) : SM := fun ρ => (fv ρ).bind fun v ρ1 => match ρ1[i]?.join with
  | some (.k ks xs) => match kIx ks s with
    | some j => if ks.Nodup ∧ ks.length < sizeLine then .ok .nx (ρ1.set i (some (.k ks (xs.set j v)))) else .stuck
    | none => .stuck
  | _ => .stuck
theorem put_none {k : Key} {x : V} : ∀ {r : List (Key × V)}, ¬ k ∈ r.map (·.1) → r.map (fun kv => if kv.1 = k then (kv.1, x) else kv) = r
  | [], _ => rfl
  | p :: r, h => by
    simp only [List.map_cons, List.mem_cons, not_or] at h
    rw [List.map_cons, if_neg fun e => h.1 e.symm, put_none h.2]
theorem put_set {s : Str} {x : V} : ∀ {kvs : List (Key × V)} {j : Nat}, (kvs.map (·.1)).Nodup → kIx (kvs.map (·.1)) s = some j →
    (kvs.any fun kv => decide (kv.1 = Sum.inr s)) = true ∧ (kvs.map (fun kv => if kv.1 = Sum.inr s then (kv.1, x) else kv)).map (·.1) = kvs.map (·.1) ∧ (kvs.map (fun kv => if kv.1 = Sum.inr s then (kv.1, x) else kv)).map (·.2) = (kvs.map (·.2)).set j x
  | [], j, _, e => by simp [kIx] at e
  | p :: r, j, hn, e => by
    simp only [List.map_cons, List.nodup_cons] at hn
    unfold kIx at e
    simp only [List.map_cons, List.findIdx?_cons] at e
    by_cases h : p.1 = Sum.inr s
    · rw [h] at hn
      simp only [h, decide_true, if_true] at e
      cases e
      have q := put_none (x := x) hn.1
      refine ⟨by simp [h], ?_, ?_⟩
      · rw [List.map_cons, if_pos h, q]
        simp
      · rw [List.map_cons, if_pos h, q]
        simp
    · simp only [h, decide_false, Bool.false_eq_true, if_false] at e
      cases q : kIx (r.map (·.1)) s with
      | none =>
        unfold kIx at q
        rw [q] at e
        cases e
      | some j' =>
        obtain ⟨a1, a2, a3⟩ := put_set (x := x) hn.2 q
        unfold kIx at q
        rw [q] at e
        cases e
        refine ⟨by rw [List.any_cons, a1, Bool.or_true], ?_, ?_⟩
        · rw [List.map_cons, if_neg h, List.map_cons, a2, List.map_cons]
        · rw [List.map_cons, if_neg h, List.map_cons, a3, List.map_cons]
          rfl
theorem putK_set {s : Str} {x : V} {kvs : List (Key × V)} {j : Nat} (hn : (kvs.map (·.1)).Nodup) (e : kIx (kvs.map (·.1)) s = some j) :
    (putK kvs (Sum.inr s) x).map (·.1) = kvs.map (·.1) ∧ (putK kvs (Sum.inr s) x).map (·.2) = (kvs.map (·.2)).set j x := by
  obtain ⟨a1, a2, a3⟩ := put_set (x := x) hn e
  unfold putK
  rw [if_pos a1]
  exact ⟨a2, a3⟩
section
variable {G : Gx} {W : WX} {pn : List Nat} {F F' F1 F2 F3 H H' H1 H2 H3 : Hp} {A A' A1 A2 A3 B : AS} {ρ ρ' κ : Vs.Env} {σ ς : L2.St} {X : Cx} {st : Stmt} {e b a o : Expr} {es : List Expr} {oe : Opd} {pos p q p1 p2 p3 : Pos} {x f : Str} {i k : Nat} {bb : Bool}
theorem z_setK {s : Str} {p : Bool} {fv : M OD} (h : PS X st (tAsg (TX G W p fv) (gSub (tVar i) (tC (.str s)) rSetA))) : SS X G W pn st (zSetK i s fv) := PS.of h fun D σ H q => by
  obtain ⟨F, ρ, A, S, q⟩ := q
  unfold zSetK at q
  refine TX.then S q fun v ρ1 F1 H1 x A1 e1 g1 S1 q1 => ?_
  split at q1
  · rename_i ks xs q2
    split at q1
    · rename_i j q3
      split at q1
      · rename_i hc
        obtain ⟨hn, hlt⟩ := hc
        obtain ⟨B, A0, hv, S0, c0, hB⟩ := S1.pop
        obtain ⟨o, Ai, Aj, h1, hod, _, ci⟩ := S0.sl.at (join_some q2)
        refine ⟨o, h1, ?_⟩
        simp only [OT] at hod
        obtain ⟨a, kvs, C, rfl, ha, hk, hots, cC⟩ := hod
        show rSetA _ _ _ _ _
        obtain ⟨p1, p2⟩ := putK_set (x := x) (kvs := kvs) (s := s) (by rw [hk]; exact hn) (by rw [hk]; exact q3)
        refine .inr ⟨a, _, rfl, .inl ⟨kvs, Sum.inr s, ha, rfl, by rw [← hk, List.length_map] at hlt; exact hlt, rfl⟩, ?_⟩
        have hj : j < xs.length := by
          have := hots.len
          unfold kIx at q3
          have l1 := (List.findIdx?_eq_some_iff_getElem.mp q3).1
          rw [← hk, List.length_map] at l1
          rw [List.length_map] at this
          omega
        obtain ⟨A', S', sub⟩ := S0.write (i := i) (a := a) (o := .dK (putK kvs (Sum.inr s) x)) (od' := .k ks (xs.set j v)) (B := B) (join_some q2) h1 (fun A1 ho => by
          simp only [OT] at ho
          obtain ⟨a2, kvs2, C2, ea, ha2, hk2, hots2, cC2⟩ := ho
          cases ea
          rw [ha] at ha2
          cases ha2
          refine ⟨cC2.l rfl, fun A2 cA => ?_⟩
          have ex : xs[j]? = some xs[j] := List.getElem?_eq_getElem hj
          obtain ⟨w, D1, D2, _, _, cD, back⟩ := hots2.at ex
          have hBA : ∀ b, B b → ¬ A0 b := c0.2
          have hax : ∀ b, D2 b → b ≠ a := fun b z y => cC2.2 b y (cD.r z)
          refine ⟨fun b => b = a ∨ (B b ∨ D2 b), ?_, fun b z => ?_, fun b z y => ?_⟩
          · simp only [OT]
            refine ⟨a, _, fun b => B b ∨ D2 b, rfl, upd_same, by rw [p1, hk], ?_, .mk' _ _ fun b z y => ?_⟩
            · rw [p2]
              refine back F1 (upd H1 a _) v x B _ (.refl _) (fun b z => upd_ne (hax b z)) ?_ (.mk' _ _ fun b z y => hBA b z (cA.l (cC2.r (cD.r y))))
              exact hv.mono (.refl _) fun b z => upd_ne fun y => hBA b z (cA.l (cC2.l y))
            · subst z
              rcases y with y | y
              · exact hBA _ y (cA.l (cC2.l rfl))
              · exact hax _ y rfl
          · rcases z with z | z | z
            · exact .inl (cC2.l z)
            · exact .inr z
            · exact .inl (cC2.r (cD.r z))
          · rcases z with z | z | z
            · exact cA.2 b (cC2.l z) y
            · exact hBA b z (cA.r y)
            · exact cA.2 b (cC2.r (cD.r z)) y) hB
        refine q1 F1 _ σ A' ⟨.refl _, fun b w z n => ?_, fun b z => .inl ((sub b z).elim (fun y => c0.r y) fun y => c0.l y), fun _ _ z => .inl z⟩ .refl S'
        have : b ≠ a := fun y => n ⟨rfl, y ▸ c0.r (ci.l (cC.l rfl))⟩
        rw [upd_ne this]; exact z
      · exact q1.elim
    · exact q1.elim
  · exact q1.elim
end
/-! {"k": v, ..}, what is owned stays so -/
def splitK : List OD → Option (List Key × List OD)
  | [] => some ([], [])
  | .v d :: x :: r => (keyD d).bind fun k => (splitK r).bind fun z => if hasK z.1 k = true then none else some (k :: z.1, x :: z.2)
  | _ => none
def kDictO (ods : List OD) : Option OD := if ods.length ≤ 30 then (splitK ods).map fun r => .k r.1 r.2 else none
def mDictQ (as : List Opd) : M OD := mTakeO as kDictO
theorem mergeK_app : ∀ (more kvs : List (Key × V)), ((kvs ++ more).map (·.1)).Nodup → mergeK kvs more = kvs ++ more
  | [], kvs, _ => by simp [mergeK]
  | p :: r, kvs, h => by
    have hn : ¬ p.1 ∈ kvs.map (·.1) := by
      rw [List.map_append, List.map_cons, List.nodup_append] at h
      exact fun z => h.2.2 _ z _ List.mem_cons_self rfl
    have e : putK kvs p.1 p.2 = kvs ++ [p] := by
      unfold putK
      rw [if_neg]
      simp only [List.any_eq_true, decide_eq_true_eq, not_exists, not_and]
      exact fun y hy e => hn (List.mem_map.mpr ⟨y, hy, e⟩)
    show mergeK (putK kvs p.1 p.2) r = _
    rw [e, mergeK_app r _ (by simpa using h), List.append_assoc]
    rfl
section
variable {G : Gx} {W : WX} {pn : List Nat} {F F' F1 F2 F3 H H' H1 H2 H3 : Hp} {A A' A1 A2 A3 B : AS} {ρ ρ' κ : Vs.Env} {σ ς : L2.St} {X : Cx} {st : Stmt} {e b a o : Expr} {es : List Expr} {oe : Opd} {pos p q p1 p2 p3 : Pos} {x f : Str} {i k : Nat} {bb : Bool}
theorem splitK_run : ∀ {ods : List OD} {vs : List V} {A : AS} {ks : List Key} {xs : List OD}, OTs G F H ods vs A → splitK ods = some (ks, xs) →
    ∃ more : List (Key × V), pairUp vs = more.map (fun kv => (kV kv.1, kv.2)) ∧ more.length * 2 = ods.length ∧ more.map (·.1) = ks ∧ ks.Nodup ∧ ∃ A', OTs G F H xs (more.map (·.2)) A' ∧ ∀ a, A' a → A a
  | [], vs, A, ks, xs, h, e => by
    simp only [splitK] at e; cases e
    simp only [OTs] at h
    obtain ⟨rfl, h⟩ := h
    exact ⟨[], rfl, rfl, rfl, List.nodup_nil, fun _ => False, by simp [OTs], fun _ z => z.elim⟩
  | [.v d], vs, A, ks, xs, h, e => by simp [splitK] at e
  | .v d :: x :: r, vs, A, ks, xs, h, e => by
    simp only [OTs] at h
    obtain ⟨v, r1, B1, B2, rfl, h1, ⟨w, r2, C1, C2, rfl, h2, h3, c2⟩, c⟩ := h
    simp only [splitK] at e
    cases q : keyD d with
    | none => rw [q] at e; cases e
    | some k =>
      rw [q] at e
      simp only [Option.bind_some] at e
      cases q2 : splitK r with
      | none => rw [q2] at e; cases e
      | some z =>
        obtain ⟨ks', xs'⟩ := z
        rw [q2] at e
        simp only [Option.bind_some] at e
        split at e
        · cases e
        · rename_i hk
          cases e
          obtain ⟨more, m1, m2, m3, m4, A', m5, m6⟩ := splitK_run h3 q2
          simp only [OT] at h1
          have h1' := h1.1
          have : v = kV k := by cases d <;> simp only [keyD] at q <;> cases q <;> simp only [Rep] at h1' <;> exact h1'
          subst this
          refine ⟨(k, w) :: more, by simp [pairUp, m1], by simp; omega, by simp [m3], List.nodup_cons.mpr ⟨fun z => hk (by unfold hasK; exact List.any_eq_true.mpr ⟨k, z, by simp⟩), m4⟩, fun a => C1 a ∨ A' a, ?_, fun a z => c.r (z.elim (fun z => c2.l z) fun z => c2.r (m6 a z))⟩
          simp only [List.map_cons, OTs]
          exact ⟨w, _, C1, A', rfl, h2, m5, .mk' _ _ fun a z y => c2.2 a z (m6 a y)⟩
  | .l _ :: _, vs, A, ks, xs, h, e => by simp [splitK] at e
  | .k _ _ :: _, vs, A, ks, xs, h, e => by simp [splitK] at e
  | .o _ _ _ :: _, vs, A, ks, xs, h, e => by simp [splitK] at e
theorem sx_dictQ {keys : List (Option Expr)} {values : List Expr} {as : List (Opd × Opd)} (h : PPs X pos keys values (as.map fun p => (tOpd G W p.1, tOpd G W p.2))) (hall : keys.all (·.isSome) = true) (hl : keys.length = values.length) (h0 : keys ≠ []) (h15 : keys.length ≤ 15) :
    SX X G W (pAll (flatP as)) (.Dict keys values pos) (mDictQ (flatP as)) := PE.of (pe_disp h hall hl h0 h15) fun σ H Q q => by
  intro p hp
  refine pairs_of ?_
  obtain ⟨F, ρ, A, κ, ς, S, hl, q⟩ := q
  unfold mDictQ mTakeO at q
  by_cases ho : okPl ρ (flatP as) = true
  · rw [if_pos ho] at q
    have hF : F p = none := by
      cases q : F p with
      | none => rfl
      | some o => rw [S.le p o q] at hp; cases hp
    have n0 : New F H F (upd H p (.dK [])) := .own S.le hp
    have hempty : OT G F (upd H p (.dK [])) (.k [] []) (.ref p) fun a => a = p := by
      simp only [OT, OTs]
      exact ⟨p, [], fun _ => False, rfl, upd_same, rfl, ⟨rfl, fun _ z => z⟩, .nil_r fun _ z => z⟩
    obtain ⟨A0, S0, h0'⟩ := (S.new n0).push hempty fun a z => by
      subst z
      refine ⟨hF, fun w => ?_⟩
      obtain ⟨o, q⟩ := S.sl.there a w
      rw [hp] at q; cases q
    have g0 : Go true F H A F (upd H p (.dK [])) A0 := ⟨n0.lf, fun a o q _ => n0.lh a o q, fun a z => ((h0' a).1 z).elim (fun e => .inr (e ▸ hp)) .inl, fun _ _ q => .inl q⟩
    refine tAll_run (κ := some (.k [] []) :: κ) (ς := some (.ref p) :: ς) S0 (by simp [hl]) (okPl_ok S hl ho) ?_
    cases e1 : evAll (flatP as) ρ with
    | stuck => rw [e1] at q; exact q
    | exc x ρ' =>
      rw [e1] at q
      intro F' H' A' cls dd g S' xr
      obtain ⟨A'', S'', sub⟩ := Stt.dropTop (show Stt G F' H' (some (.k [] []) :: (κ ++ ρ')) (some (.ref p) :: (ς ++ σ)) A' from S')
      exact q F' H' A'' cls dd (((g0.trans g).imp fun z => by cases z).less sub) S'' xr
    | ok ds ρ' =>
      rw [e1] at q
      simp only [Out.bind_ok] at q
      intro F1 H1 vs A1 g1 S1 l1
      cases e2 : takeO ds ρ' with
      | none => rw [e2] at q; exact q.elim
      | some z =>
        obtain ⟨ods, ρ2⟩ := z
        rw [e2] at q
        simp only at q
        obtain ⟨F2, A2, S2, g2⟩ := takeO_run (κ := some (.k [] []) :: κ) (ς := some (.ref p) :: ς) S1 (by simp [hl]) l1 e2
        have hlv : vs.length = ods.length := by have := (takeO_len e2).1; rw [l1.len]; exact this.symm
        obtain ⟨Bv, A3, hots, S3, c3, hBv⟩ := S2.ots hlv
        obtain ⟨B, A4, ho4, S4, c4, hB4⟩ := Stt.pop (show Stt G F2 H1 (some (.k [] []) :: (κ ++ ρ2)) (some (.ref p) :: (ς ++ σ)) A3 from S3)
        simp only [OT, OTs] at ho4
        obtain ⟨p', kvs, B', ep, hd, hk, ⟨_, hB'⟩, cB⟩ := ho4
        cases ep
        have hk0 : kvs = [] := by simpa using hk
        subst hk0
        refine ⟨hd, ?_⟩
        unfold kDictO at q
        split at q
        · rename_i od hm
          split at hm
          · rename_i h30
            cases e5 : splitK ods with
            | none => rw [e5] at hm; cases hm
            | some r =>
              obtain ⟨ks', xs'⟩ := r
              rw [e5] at hm; cases hm
              obtain ⟨more, m1, m2, m3, m4, Bx, m5, m6⟩ := splitK_run hots e5
              have hme : mergeK [] more = more := mergeK_app more [] (by rw [List.nil_append, m3]; exact m4)
              refine ⟨more, m1, by omega, ?_⟩
              rw [hme]
              have hpB : B p := (cB.1 p).2 (.inl rfl)
              have hpA : ¬ A4 p := c4.2 p hpB
              have hF3 : F2 p = none := hB4 p hpB
              have hpx : ∀ a, Bx a → a ≠ p := fun a z y => c3.2 a (m6 a z) (c4.l (y ▸ hpB))
              have le5 : Le F2 (upd H1 p (.dK more)) := fun a o e => by
                by_cases ha : a = p
                · subst ha; rw [hF3] at e; cases e
                · rw [upd_ne ha]; exact S3.le a o e
              have S5 : Stt G F2 (upd H1 p (.dK more)) (κ ++ ρ2) (ς ++ σ) A4 := ⟨le5, S4.sl.mono (.refl _) fun a z => upd_ne fun e => hpA (e ▸ z), S4.fr⟩
              have ho5 : OT G F2 (upd H1 p (.dK more)) (.k ks' xs') (.ref p) fun a => a = p ∨ Bx a := by
                simp only [OT]
                exact ⟨p, more, Bx, rfl, upd_same, m3, m5.mono (.refl _) fun a z => upd_ne (hpx a z), .mk' _ _ fun a z y => hpx a y z⟩
              obtain ⟨A6, S6, h6⟩ := S5.push ho5 fun a z => by
                rcases z with rfl | z
                · exact ⟨hF3, hpA⟩
                · exact ⟨hBv a (m6 a z), fun y => c3.2 a (m6 a z) (c4.r y)⟩
              refine q _ _ _ A6 ?_ S6
              have gg : Go (pAll (flatP as)) F H A F2 H1 A2 := ((g0.trans g1).trans g2).imp fun z => by simp [z]
              refine ⟨gg.le, fun a o e n => ?_, fun a z => ?_, gg.nf⟩
              · have : a ≠ p := fun z => by subst z; rw [hp] at e; cases e
                rw [upd_ne this]
                exact gg.keep a o e n
              · rcases (h6 a).1 z with (rfl | b) | b
                · exact .inr hp
                · exact gg.sub a (c3.l (m6 a b))
                · exact gg.sub a (c3.r (c4.r b))
          · cases hm
        · exact q.elim
  · rw [if_neg ho] at q; exact q.elim
/-! xs[::-1] -/
theorem Reps.rev : ∀ {ds : List D} {vs : List V}, Reps G F ds vs → Reps G F ds.reverse vs.reverse
  | [], vs, h => by simp only [Reps] at h; subst h; exact .nil
  | d :: ds, vs, h => by
    simp only [Reps] at h
    obtain ⟨v, r, rfl, h1, h2⟩ := h
    rw [List.reverse_cons, List.reverse_cons]
    exact (Reps.rev h2).append (.one h1)
def rRev (K : PySem.W.Frag) (x : V) (H : Hp) (Q : VK) : Prop := ∃ a xs, x = .ref a ∧ SqL K H a xs ∧ ∀ p, H p = none → Q (.ref p) (upd H p (.lst xs.reverse))
def revD : List D → Option (List D)
  | [.lst ds] => some ds.reverse
  | [.rol ds] => some ds.reverse
  | _ => none
def opRev (xs : List D) : Option OD := (revD xs).map fun ds => .l (ds.map .v)
theorem rn_rev (hG : G.K = X.K) : RN G (RV1 (rRev X.K)) opRev := rn_l fun F H xs vs z Q le hr ez k => by
  unfold revD at ez
  split at ez
  · rename_i ds
    cases ez
    simp only [RepBs] at hr
    obtain ⟨v, r, rfl, h1, rfl⟩ := hr
    simp only [RepB] at h1
    obtain ⟨a, us, rfl, h1, h2⟩ := h1
    exact ⟨a, us, rfl, .inl (.of h1), fun p hp => k p _ hp h2.rev⟩
  · rename_i ds
    cases ez
    simp only [RepBs] at hr
    obtain ⟨v, r, rfl, h1, rfl⟩ := hr
    simp only [RepB, Rep] at h1
    obtain ⟨a, us, rfl, h1, h2⟩ := h1
    rw [hG] at h1
    exact ⟨a, us, rfl, le.sql h1, fun p hp => k p _ hp h2.rev⟩
  · cases ez
theorem e_rev (K : Ok X G W k bb) {n : Nat} (he : SO X G W e oe) : SX X G W (pAll [oe]) (.Subscript e (.Slice none none (some (.UnaryOp .USub (.Constant (.int 1) n p1) p2)) p3) pos) (mApp opRev [oe]) :=
  sx_app (pe_revL he) (rn_rev K.gK) fun σ H Q z => z
end
end Vs

/-! VsC14: d["k"] = v as a statement; evaluation of dicts with owned entries and of xs[::-1]. -/
namespace Vs
open PySem L2 PySem.Spec PyProof.Rows
section
variable {X : Cx} {G : Gx} {W : WX} {pn : List Nat} {k : Nat} {bb pb pb' : Bool} {e b : Expr} {f : M OD} {x s : Str} {p pos q : Pos} {st : Stmt}
theorem s_setK (i : Nat) {tpos : Pos} (K : Ok X G W k bb) (he : SX X G W pb e f) (hb : PE X b (tC (.str s)))  (hN : X.N[i]? = some x := by rfl) (hv : Vis X.env.scope x := by first | exact Or.inl rfl | exact Or.inr (Or.inl rfl) | exact Or.inr (Or.inr rfl))
    (ha : ∀ v, assign (.Subscript (.Name x p) b tpos) X.env v = (do
      let ov ← holding [v] (eval (.Name x p) X.env)
      let iv ← holding [v, ov] (eval b X.env)
      standAt tpos
      holding [v, ov, iv] (setItem ov iv v)
      release [v, ov, iv] []) := by intro _; rfl)
    (hs : swapsWithSole [.Subscript (.Name x p) b tpos] e pos.line X.env = pure false := by rfl) (hw : swappedStores [.Subscript (.Name x p) b tpos] e X.env = pure none := by rfl)
    (h1 : (assignEach [.Subscript (.Name x p) b tpos] X.env).map (·.2) = [assign (.Subscript (.Name x p) b tpos) X.env] := by rfl) (hd : (x == ("__debug__" : Str)) = false := by decide) (hcd : (x == ("__classdict__" : Str)) = false := by decide) :
    SS X G W pn (.Assign [.Subscript (.Name x p) b tpos] e pos) (zSetK i s f) :=
  z_setK (ps_asg he (pg_sub (pe_var hN hv hd hcd) hb (set_any K.u1) ha) hs hw h1)
end
/-! evaluation -/
def setKP (o : Option OD) (i : Nat) (s : Str) (v : OD) (ρ1 : Env) : Out Fl := match o with
  | some (.k ks xs) => match kIx ks s with
    | some j => if ks.Nodup ∧ ks.length < sizeLine then .ok .nx (ρ1.set i (some (.k ks (xs.set j v)))) else .stuck
    | none => .stuck
  | _ => .stuck
theorem zSetK_e {i : Nat} {s : Str} {fv : M OD} {ρ : Env} : zSetK i s fv ρ = (fv ρ).bind fun v ρ1 => setKP (ρ1[i]?.join) i s v ρ1 := by
  unfold zSetK setKP
  rfl
theorem mDictQ_e {as : List Opd} {ρ : Env} : mDictQ as ρ = mTakeO as kDictO ρ := nr rfl
theorem opRev_lst {ds : List D} : opRev [.lst ds] = some (.l (ds.reverse.map .v)) := nr rfl
theorem flatP_nil : flatP [] = [] := nr rfl
theorem flatP_cons {a b : Opd} {r : List (Opd × Opd)} : flatP ((a, b) :: r) = a :: b :: flatP r := nr rfl
end Vs

/-! VsC15: name = [.. for ..] on one line. -/
namespace Vs
open PySem L2 PySem.Spec PyProof.Rows
section
variable {G : Gx} {W : WX} {pn : List Nat} {F F' F1 F2 F3 H H' H1 H2 H3 : Hp} {A A' A1 A2 A3 B : AS} {ρ ρ' κ : Vs.Env} {σ ς : L2.St} {X : Cx}
theorem fz_core {p : Bool} {f : M OD} {Q : VK} (q : TX G W p (mFz f) σ H Q) : TX G W p f σ H Q := by
  obtain ⟨F, ρ, A, κ, ς, S, hl, q⟩ := q
  refine ⟨F, ρ, A, κ, ς, S, hl, ?_⟩
  unfold mFz at q
  cases e1 : f ρ with
  | stuck => rw [e1] at q; exact q
  | exc x ρ' => rw [e1] at q; exact q
  | ok od ρ' =>
    rw [e1] at q
    intro F' H' v A' g S'
    obtain ⟨F2, A2, hr, S2, g2, _⟩ := Stt.frz (p := true) S'
    exact q F2 H' v A2 ((g.trans g2).imp fun z => by simp [z]) (S2.push_v hr)
variable {e elt tgt iter : Expr} {ifs : List Expr} {scope : Scope} {own : List (Str × Nat)} {pos py spos : Pos} {y : Str} {i : Nat}
theorem z_setComp {p pc pe : Bool} {fi : M OD} {tg : Tgt} {fc : M Bool} {fe : M OD} (hG : G.K = X.K) (hc : X.calm = true) (hN : X.N.Nodup) (hi : SX X G W p iter fi) (ok : BlkOk X.N X.env.scope scope own) (hp : ∀ i ∈ tg.ix, i ∈ own.map (·.2))
    (hg : ∀ (s : Shared) (H : Hp) (C : Addr) (cl : List (Str × Addr)) (fp : List Addr), PG (X.blk s H scope (compEnvC scope cl C X.env) fp) tgt (tg.t G.K))
    (ht : ∀ (s : Shared) (H : Hp) (C : Addr) (cl : List (Str × Addr)) (fp : List Addr), PTs (X.blk s H scope (compEnvC scope cl C X.env) fp) ifs (TB G W0 pc fc))
    (he : ∀ (s : Shared) (H : Hp) (C : Addr) (cl : List (Str × Addr)) (fp : List Addr), SX (X.blk s H scope (compEnvC scope cl C X.env) fp) G W0 pe elt fe)
    (hy : X.N[i]? = some y := by rfl) (hip : i ∉ pn := by decide) (hyl : X.env.scope.names.lookup y = some .local := by rfl) (hk : X.env.scope.kind = .function := by rfl) (hl : (py.line == pos.line) = true := by rfl)
    (ha : (scope.names.any fun (n, k) => n == y && (k == .local || k == .cell)) = false := by rfl) (hs : ∀ x, foldedSetIterable iter X.env x = pure x := by intro _; rfl) :
    SS X G W pn (.Assign [.Name y py] (.ListComp elt [⟨tgt, iter, ifs, 0⟩] scope pos) spos) (zSet i (mFz (mComp (zIt fi) tg (own.map (·.2)) fc fe))) :=
  PS.of (ps_setLc hc hN hy hyl (sw_true hk hyl hl ha) (pi_any hi) ok hg ht he hs) fun D σ H h => by
  have q : TX G W (p && (pc && pe)) (mComp (zIt fi) tg (own.map (·.2)) fc fe) σ H (fun x H1 => gName i x σ H1 D.nx) := fz_core (TZ.set hip h)
  obtain ⟨F, ρ, A, κ, ς, S, hl, q⟩ := q
  unfold mComp zIt at q
  rw [← hG]
  refine ⟨F, ρ, A, κ, ς, S, hl, ?_⟩
  cases e1 : fi ρ with
  | stuck => rw [e1] at q; exact q
  | exc x ρ' => rw [e1] at q; exact q
  | ok od ρ1 =>
    rw [e1] at q
    simp only [Out.bind_ok] at q
    intro F1 H1 v A1 g1 S1
    obtain ⟨F2, A2, hr, S2, g2, _⟩ := Stt.frz (p := true) S1
    cases e2 : items od.fz with
    | none => rw [e2] at q; exact q.elim
    | some ds =>
      rw [e2] at q
      simp only [Out.bind_ok] at q
      refine any_run S2.le hr e2 fun J P yv w r pp => ?_
      exact comp_run (p := p && (pc && pe)) w S2 hl ((g1.trans g2).imp fun z => by simp only [Bool.and_eq_true] at z; simp [z.1]) (fun z => by simp only [Bool.and_eq_true] at z; exact z.2) r pp hp q
theorem z_setCompR1 {p pc pe : Bool} {fi : M OD} {tg : Tgt} {fc : M Bool} {fe : M OD} {e1 : Expr} {q1 q2 : Pos} (hG : G.K = X.K) (hc : X.calm = true) (hN : X.N.Nodup) (hgl : Gl X "range") (hm : X.mg "range" = none) (ha0 : PA X [e1] (tCons (TX G W p fi) tNil)) (ok : BlkOk X.N X.env.scope scope own) (hp : ∀ i ∈ tg.ix, i ∈ own.map (·.2))
    (hg : ∀ (s : Shared) (H : Hp) (C : Addr) (cl : List (Str × Addr)) (fp : List Addr), PG (X.blk s H scope (compEnvC scope cl C X.env) fp) tgt (tg.t G.K))
    (ht : ∀ (s : Shared) (H : Hp) (C : Addr) (cl : List (Str × Addr)) (fp : List Addr), PTs (X.blk s H scope (compEnvC scope cl C X.env) fp) ifs (TB G W0 pc fc))
    (he : ∀ (s : Shared) (H : Hp) (C : Addr) (cl : List (Str × Addr)) (fp : List Addr), SX (X.blk s H scope (compEnvC scope cl C X.env) fp) G W0 pe elt fe)
    (hy : X.N[i]? = some y := by rfl) (hip : i ∉ pn := by decide) (hyl : X.env.scope.names.lookup y = some .local := by rfl) (hk : X.env.scope.kind = .function := by rfl) (hl : (py.line == pos.line) = true := by rfl)
    (ha : (scope.names.any fun (n, k) => n == y && (k == .local || k == .cell)) = false := by rfl) (hs : ∀ x, foldedSetIterable (.Call (.Name "range" q1) [e1] [] q2) X.env x = pure x := by intro _; rfl)
    (hst : starEach [e1] X.env = [(false, eval e1 X.env)] := by rfl) :
    SS X G W pn (.Assign [.Name y py] (.ListComp elt [⟨tgt, .Call (.Name "range" q1) [e1] [] q2, ifs, 0⟩] scope pos) spos) (zSet i (mFz (mComp (zRng1 fi) tg (own.map (·.2)) fc fe))) :=
  PS.of (ps_setLc hc hN hy hyl (sw_true hk hyl hl ha) (pi_range1 hgl hm ha0 hst) ok hg ht he hs) fun D σ H h => by
  have q : TX G W (p && (pc && pe)) (mComp (zRng1 fi) tg (own.map (·.2)) fc fe) σ H (fun x H1 => gName i x σ H1 D.nx) := fz_core (TZ.set hip h)
  obtain ⟨F, ρ, A, κ, ς, S, hl, q⟩ := q
  unfold mComp zRng1 at q
  refine ⟨F, ρ, A, κ, ς, S, hl, ?_⟩
  cases e1 : fi ρ with
  | stuck => rw [e1] at q; exact q
  | exc x ρ' => rw [e1] at q; exact q
  | ok od ρ1 =>
    rw [e1] at q
    simp only [Out.bind_ok] at q
    intro F1 H1 v A1 g1 S1
    split at q
    · rename_i n
      split at q
      · rename_i hn
        obtain ⟨hr, S2⟩ := Stt.pop_v S1
        simp only [Rep] at hr
        simp only [Out.bind_ok] at q
        refine ⟨n, by rw [hr], hn.1, hn.2, ?_⟩
        exact comp_run (p := p && (pc && pe)) wk_rng S2 hl (g1.imp fun z => by simp only [Bool.and_eq_true] at z; simp [z.1]) (fun z => by simp only [Bool.and_eq_true] at z; exact z.2) reps_rng (fun _ _ _ _ => trivial) hp q
      · exact q.elim
    · exact q.elim
end
end Vs

/-! VsC16: class E(..): def __init__(self, y): super().__init__(y); self.f = y. Such an exception, made. -/
namespace Vs
open PySem L2 PySem.Spec PyProof.Rows PySem.Calls
section
variable {prog : Program} {w : World} {A : Around} {R : Result → Shared → Prop} {K : PySem.W.Frag} {mg : Str → Option Value} {base hp : Heap} {g : Array GenState} {d : Drawn} {t : Nat} {os : OsState}
/-- what is asked of the class at C and of its __init__ at fI: one name y, kept as the field f -/
structure SupC (P : Program) (K : PySem.W.Frag) (C fI : Addr) (f : Str) : Prop where
  cls : ∃ nm q N bs bm sn sub ab col dd k0 k1 k2 k3 k5, K.lookup C = some (excClassObj nm q C N bs bm true sn sub ab col dd k0 k1 k2 k3 k5 "ValueError.__new__") ∧ PySem.HandSPX.refsVE bm = true ∧ PySem.W.alongIn K "__init__" bm = some (some (.builtin "ValueError.__init__"))
  sa : PySem.W.findIn K (.ref C) "__setattr__" = some (some (.builtin "object.__setattr__"))
  fld : PySem.W.findIn K (.ref C) f = some none
  subV : PySem.W.subIn K (.ref C) (.type "ValueError") = some true
  exC : PySem.W.subIn K (.ref C) (.type "BaseException") = some true
  tyC : PySem.W.typeIn K (.ref C) = some (.type "type")
  kC : PySem.W.keepIn K (.ref C) = true
  self : PySem.W.mroIn K C (.ref C) = some true
  noT : PySem.W.nsIn K cStatics "thirdparty.any" = some none
  init : PySem.W.findIn K (.ref C) "__init__" = some (some (.ref fI))
  tyI : PySem.W.typeIn K (.ref fI) = some (.type "function")
  run : ∃ (oc : Value) (od : Option Addr) (osl : Array (Option Value)) (nm' qual sf y : Str) (params : Arguments) (scope : Scope) (dV kV doc pm ct : Value) (an : Option Addr) (cc cda : Addr) (p0 p1 p2 p3 p4 p5 p6 p7 p8 p9 : Pos)
      (ccl : Value) (cdd : Option Addr) (vs : Array Value) (ccs : Array (Option Value)) (file : Str) (tf : Tok) (cl : Value) (cld : Option Addr) (csl : Array (Option Value)) (ar : Arg),
    K.lookup fI = some ⟨oc, od, .func (PySem.W.ksFn nm' qual params [.Expr (.Call (.Attribute (.Call (.Name "super" p0) [] [] p1) "__init__" p2) [.Name y p3] [] p4) p5, .Assign [.Attribute (.Name sf p6) f p7] (.Name y p8) p9] scope dV kV doc pm an (.ref cda) ct cc), osl⟩ ∧
    PySem.W.codeIn K (.ref cda) qual = true ∧ K.lookup cda = some ⟨ccl, cdd, .fields vs, ccs⟩ ∧ vs[2]? = some (.str file tf) ∧ ((P.main.file : Str) == file) = true ∧ K.lookup cc = some ⟨cl, cld, .cell (some (.ref C)), csl⟩ ∧
    (∀ a u : Value, bindArgs (PySem.W.ksFn nm' qual params [.Expr (.Call (.Attribute (.Call (.Name "super" p0) [] [] p1) "__init__" p2) [.Name y p3] [] p4) p5, .Assign [.Attribute (.Name sf p6) f p7] (.Name y p8) p9] scope dV kV doc pm an (.ref cda) ct cc) ⟨[a, u], []⟩ = pure [(sf, a), (y, u)]) ∧
    (params.posonlyargs ++ params.args).head? = some ar ∧ ar.arg = sf ∧ sf ≠ y ∧ scope.names.lookup ("super" : Str) = some .globalImplicit ∧ scope.names.lookup ("__class__" : Str) = some .free ∧ scope.names.lookup sf = some .local ∧ scope.names.lookup y = some .local ∧
    scope.kind = .function ∧ (∀ x ∈ scope.names, x.2 ≠ .cell) ∧ scope.isCoroutine = false ∧ scope.isGenerator = false ∧ (y == ("__debug__" : Str)) = false ∧ (sf == ("__debug__" : Str)) = false ∧
    (∀ env : PySem.Env, ∃ pl : Sem Bool, eval (.Call (.Attribute (.Call (.Name "super" p0) [] [] p1) "__init__" p2) [.Name y p3] [] p4) env = (do
      let ov ← attributeBase (.Call (.Name "super" p0) [] [] p1) "__init__" env (eval (.Call (.Name "super" p0) [] [] p1) env)
      standAt p2.atName
      let (f, first) ← holding [ov] (getMethod ov "__init__" pl)
      callWith p4 f first (backTo p4 (starEach [.Name y p3] env)) []))
theorem mw_call {E : Value → Shared → Prop} {C N e t0 q : Addr} {nm qn : Str} {bs bm : List Value} {sn : List Str} {sub : List Value} {ab : Bool} {col : Option Bool} {dd : Option Addr} {k0 k1 k2 k3 k5 : Option Value} {rest : List Value} {Q : Value → Shared → Prop}
    (cC : hp.get? C = some (excClassObj nm qn C N bs bm true sn sub ab col dd k0 k1 k2 k3 k5 "ValueError.__new__")) (ce : hp.get? e = some (PySem.HandSPX.excO C t0)) (cq : hp.get? q = some (PySem.W.kxs_mw "ValueError.__init__" e)) (cl : rest.length ≤ sizeLine)
    (fin : ∀ h' t1, (∀ b o, b ≠ e → hp.get? b = some o → h'.get? b = some o) → h'.get? e = some (PySem.HandSPX.excO C t1) → Q .none ⟨h', g, d, t, os⟩) : wpAny (model prog w) A (call (.ref q) rest) Q E ⟨hp, g, d, t, os⟩ := by
  refine wpAny_call (codeAny_of_tree (show wpAny (model prog w) A.in1 (callAny (.ref q) ⟨rest, []⟩) _ _ _ from ?_))
  simp only [callAny]
  refine wpAny_bind (wpAny_load cq ?_)
  have d1 : (Value.type "method-wrapper" == Value.type "method") = false := by decide
  have d2 : (Value.type "method-wrapper" == Value.type "builtin_function_or_method") = false := by decide
  simp only [PySem.W.kxs_mw, d1, d2, beq_self_eq_true, Bool.or_true, if_true]
  refine PySem.W.KFB.if_so (by decide) (wpAny_bind (PySem.W.check_bound_init PySem.F.excBase_ValueError.toExcCallFacts cC ce rfl (wpAny_bind (wpAny_pure (wpAny_pure ?_)))))
  refine And.intro (plainId_quiet PySem.F.excBase_ValueError.init.plain _) (codeAny_builtin PySem.F.excBase_ValueError.initEntry ?_)
  exact PySem.W.exc_init_tree (cls := .ref C) (t0 := t0) (dv := none) (c2 := .none) (c3 := .none) (b4 := .bool false) ce cl fun h' z1 z2 _ => fin h' _ z1 z2
theorem sup_init {C fI e t0 : Addr} {f : Str} {u : Value} (T : SupC prog K C fI f) (M : Mod K mg base) (bk : ∀ b o, base.get? b = some o → hp.get? b = some o) (hsup : mg "super" = none) (htop : (prog.main.scope.names.lookup ("super" : Str)).isSome = false) (hdep : A.depth < recursionLimit)
    (he : hp.get? e = some (PySem.HandSPX.excO C t0)) (hbe : base.get? e = none)
    (hq : ∀ h2 t2 dx t1, (∀ b o, b ≠ e → hp.get? b = some o → h2.get? b = some o) → hp.objs.size ≤ dx → dx ≠ e → h2.get? e = some ({ cls := .ref C, dict := some dx, data := .fields #[.ref t1, .none, .none, .none, .bool false, .none] } : Obj) →
      h2.Ns1 dx (fun z => if z = f then some u else none) → R (.ok (.ret .none)) ⟨h2, g, d, t2, os⟩) :
    codeAny (model prog w) A (.call (.ref fI) ⟨[.ref e, u], []⟩) R ⟨hp, g, d, t, os⟩ := by
  obtain ⟨nm, q, N, bs, bm, sn, sub, ab, col, dd, k0, k1, k2, k3, k5, hC, hbm, hal⟩ := T.cls
  obtain ⟨oc, od, osl, nm', qual, sf, y, params, scope, dV, kV, doc, pm, ct, an, cc, cda, p0, p1, p2, p3, p4, p5, p6, p7, p8, p9, ccl, cdd, vs, ccs, file, tf, cl, cld, csl, ar, lk, hcd, hco, hvs, hfile, hcell, hbind, hpar, har, hne, hks, hkc, hls, hly, hkind, hnc, hcor, hgen, hdy, hds, hev⟩ := T.run
  have KX : K.In hp := M.kin.keeps bk
  have heC : e ≠ C := fun z => by
    have := M.kin _ _ hC
    rw [← z, hbe] at this
    cases this
  have hcl : PySem.W.clsIn K C = some { name := nm, bases := bs, mro := .ref C :: bm, ns := N, qualname := q, hasDict := true, slotNames := sn, subclasses := sub, abstract := ab, collection := col, hasDel := false } := by unfold PySem.W.clsIn; rw [hC] <;> rfl
  refine PySem.ks_codeAny_call_defAt (binds := [(sf, .ref e), (y, u)]) hdep (KX _ _ lk) rfl (M.nolimit.keeps bk) (PySem.W.codeRec_of KX hcd) rfl (BindsTo.of_eq (hbind _ _)) hnc (fun x hx => ?_) (fun h1 hns1 hk1 => ?_) hcor hgen hkind
  · simp only [List.mem_cons, List.not_mem_nil, or_false] at hx
    rcases hx with rfl | rfl
    · exact hls
    · exact hly
  · obtain ⟨mb, hb1, hb2⟩ := M.blt
    have X1 : K.In h1 := KX.keeps hk1
    have bk1 : ∀ b o, base.get? b = some o → h1.get? b = some o := fun b o z => hk1 b o (bk b o z)
    have mS : ([(sf, Value.ref e), (y, u)].reverse.lookup sf) = some (.ref e) := by
      have : (sf == y) = false := by simpa using hne
      simp [List.lookup, this]
    have mY : ([(sf, Value.ref e), (y, u)].reverse.lookup y) = some u := by simp [List.lookup]
    have hC1 := X1 _ _ hC
    have he1 := hk1 _ _ he
    have hns : h1.Ns hp.objs.size (fun x => [(sf, Value.ref e), (y, u)].reverse.lookup x) := hns1
    show PySem.wpAt (model prog w) (A.deeper (PySem.W.ksEnv qual scope hp.objs.size fI (.ref cda) cc)) (.func _ (PySem.W.ksEnv qual scope hp.objs.size fI (.ref cda) cc)) (execs _ (PySem.W.ksEnv qual scope hp.objs.size fI (.ref cda) cc)) _ _ ⟨h1, g, d, t + 2, os⟩
    have v1 := hk1 _ _ he
    clear hns1
    generalize hen : PySem.W.ksEnv qual scope hp.objs.size fI (.ref cda) cc = env
    have en1 : env.scope = scope := by rw [← hen]
    have en2 : env.locals = hp.objs.size := by rw [← hen]
    have en3 : env.cells = [(("__class__" : Str), cc)] := by rw [← hen]
    have en4 : env.func = some fI := by rw [← hen]
    have en5 : env.code = .ref cda := by rw [← hen]
    have en6 : env.globals = mainGlobals := by rw [← hen]
    have en7 : env.builtins = builtinsNs := by rw [← hen]
    have ke : env.scope.kind = .function := by rw [en1]; exact hkind
    have kof : ∀ x, env.kindOf x = scope.names.lookup x := fun x => by
      show env.scope.names.lookup x = _
      rw [en1]
    have ldY : ∀ {M : Model} {A : Around} {E : Value → Shared → Prop} {s : Shared} {pos : Pos} {Q : Value → Shared → Prop}, s.heap.Ns hp.objs.size (fun x => [(sf, Value.ref e), (y, u)].reverse.lookup x) → Q u s → wpAny M A (eval (.Name y pos) env) Q E s := fun hn q =>
      wpAny_Name (wpAny_loadName_local ke ((kof y).trans hly) (by rw [en2]; exact hn) mY q) hdy
    have ldS : ∀ {M : Model} {A : Around} {E : Value → Shared → Prop} {s : Shared} {pos : Pos} {Q : Value → Shared → Prop}, s.heap.Ns hp.objs.size (fun x => [(sf, Value.ref e), (y, u)].reverse.lookup x) → Q (.ref e) s → wpAny M A (eval (.Name sf pos) env) Q E s := fun hn q =>
      wpAny_Name (wpAny_loadName_local ke ((kof sf).trans hls) (by rw [en2]; exact hn) mS q) hds
    have hint : interactive env = false := by unfold interactive; rw [ke]; rfl
    refine PySem.ks_wpAt_execs_cons (PySem.ks_wpAt_Expr_any ?_ hint rfl)
    obtain ⟨pl, hev⟩ := hev env
    refine PySem.ks_wpAt_MethodCall (pl := pl) ?_ hev
    · refine PySem.ks_wpAt_super_base ((kof _).trans hks) ((kof _).trans hkc) rfl en4 (X1 _ _ lk) rfl hpar en5 (X1 _ _ hco) rfl hvs hfile htop ?_
      refine PySem.W.ks_loadName_global ke ((kof _).trans hks) (loadGlobal_builtin (by rw [en6]; exact M.glob.keeps bk1) hsup (by rw [en7]; exact hb1.keeps bk1) ((hb2 "super" (by decide)).trans (by rfl)) ⟨rfl, ?_⟩)
      refine wpAny_loadName_free ke ((kof _).trans hkc) (by rw [en3]; rfl) ⟨_, X1 _ _ hcell, rfl⟩ ?_
      rw [har]
      refine wpAny_loadName_local ke ((kof sf).trans hls) (by rw [en2]; exact hns) mS ?_
      refine PySem.ks_wpAny_isType_cls hC1 rfl ⟨rfl, ?_⟩
      refine PySem.ks_wpAny_call_super hC1 rfl he1 rfl (fun c z => by cases z) (PySem.W.looks_mroIn X1 T.self) (fun h2 e2 k2 => ?_)
      -- the wrapper
      have X2 : K.In h2 := X1.keeps k2
      have he2 := k2 _ _ he1
      have I2 : PySem.W.InstAt h2 e (PySem.HandSPX.excO C t0) C none := ⟨he2, rfl, rfl, trivial⟩
      refine PySem.W.kxs_getMethod PySem.W.kxs_ValueError e2 (PySem.W.looks_opaque X2 T.noT) ((PySem.W.looks_clsIn X2 hcl).andThen .now) (l := bm) (by simp [List.dropWhile_cons]) X2 hal (I2.type.andThen (PySem.W.looks_subIn X2 T.subV)) heC rfl ?_
      obtain ⟨h3, e3⟩ : ∃ h3, h3 = h2.push (PySem.W.kxs_mw "ValueError.__init__" e) := ⟨_, rfl⟩
      rw [← e3]
      have k3 : ∀ b o, h2.get? b = some o → h3.get? b = some o := fun b o z => by rw [e3]; exact Heap.get?_push_of_some _ z
      have hu3 : h3.get? h2.objs.size = some (PySem.W.kxs_mw "ValueError.__init__" e) := by rw [e3]; exact Heap.get?_push_at rfl rfl
      have hns3 : h3.Ns hp.objs.size (fun x => [(sf, Value.ref e), (y, u)].reverse.lookup x) := (hns.keeps k2).keeps k3
      show wpAny _ _ (callWith p4 (.ref h2.objs.size) [] (backTo p4 (starEach [.Name y p3] env)) []) _ _ _
      have sta : starEach [.Name y p3] env = (false, eval (.Name y p3) env) :: starEach [] env := by rfl
      have args : ∀ {Q : List Value → Shared → Prop} {E : Value → Shared → Prop}, Q [u] ⟨h3, g, d, t + 2 + 1, os⟩ → wpAny (model prog w) (A.deeper env) (spliced (backTo p4 (starEach [.Name y p3] env))) Q E ⟨h3, g, d, t + 2 + 1, os⟩ := fun q => by
        rw [sta]
        exact spliced_more (ldY hns3 (spliced_none q))
      rw [sta] at args ⊢
      refine PySem.W.kxs_callWith (i := "ValueError.__init__") (x := e) (by rfl) (evalArgs_plain (args ⟨hu3, ?_⟩))
      -- the wrapper is called
      refine mw_call (X2.keeps k3 _ _ hC) (k3 _ _ he2) hu3 (by show 1 ≤ sizeLine; decide) fun h4 t1 k4 e4 => ?_
      have bk4 : ∀ b o, base.get? b = some o → h4.get? b = some o := fun b o z => k4 b o (fun w => by rw [w, hbe] at z; cases z) (k3 b o (k2 b o (bk1 b o z)))
      have X4 : K.In h4 := M.kin.keeps bk4
      have I4 : PySem.W.InstAt h4 e (PySem.HandSPX.excO C t1) C none := ⟨e4, rfl, rfl, trivial⟩
      have hLe : hp.objs.size ≠ e := Nat.ne_of_gt (Heap.lt_size he)
      have hns4 : h4.Ns hp.objs.size (fun x => [(sf, Value.ref e), (y, u)].reverse.lookup x) := by
        obtain ⟨oL, es, ep, hL, r⟩ := hns3
        exact ⟨oL, es, ep, k4 _ _ hLe hL, r⟩
      refine PySem.ks_wpAt_execs_cons (PySem.ks_wpAt_Assign_Attr (wpAt_of_wpAny (ldY hns4 (ldS hns4 ?_))) rfl)
      refine PySem.W.set_plain X4 I4 T.sa (PySem.HandSPX.exc_osa X4 e4 hcl (show PySem.HandSPX.refsVE (.ref C :: bm) = true from hbm) rfl T.fld fun h5 t5 dx k5 dn dne hx hn => ?_)
      show PySem.wpAt _ _ _ (execs [] env) _ _ _
      refine wpAt_of_wpAny (show wpAny _ _ (pure Flow.next) _ _ _ from wpAny_pure ?_)
      have size4 : hp.objs.size ≤ h4.objs.size := by
        obtain ⟨oL, es, ep, hL, r⟩ := hns4
        exact Nat.le_of_lt (Heap.lt_size hL)
      exact hq h5 t5 dx t1 (fun b o hb z => k5 b o hb (k4 b o hb (k3 b o (k2 b o (hk1 b o z))))) (Nat.le_trans size4 dn) dne hx hn
end
section
variable {X : Cx} {G : Gx} {W : WX} {pn : List Nat} {k : Nat} {x f : Str} {e : Expr} {p pos p2 : Pos} {te : TE} {C fI : Addr}
/-- C(e), such an exception -/
theorem pmk_sup (T : SupC X.prog X.K C fI f) (hr : Room 1 X.A) (hsup : X.mg "super" = none) (htop : (X.prog.main.scope.names.lookup ("super" : Str)).isSome = false) (hg : Gl X x) (hm : X.mg x = some (.ref C)) (ha : PA X [e] (tCons te tNil))
    (hdb : (x == ("__debug__" : Str)) = false := by decide) (he : starEach [e] X.env = (false, eval e X.env) :: starEach [] X.env := by rfl) (hpl : (backTo pos (starEach [] X.env)).any (·.1) = false := by rfl) :
    PMk X (.Call (.Name x p) [e] [] pos) (fun σ H Q => te σ H fun y H1 => ∀ dx, H1 dx = none → Q (.ref C) (some dx) (upd H1 dx (.xd [(f, y)]))) := by
  intro pins s σ H Q I h
  obtain ⟨nm, q, N, bs, bm, sn, sub, ab, col, dd, k0, k1, k2, k3, k5, hC, hbm, hal⟩ := T.cls
  refine wpAny_Call_Name_kw (ld_glob I hg hm ?_ hdb)
  refine PySem.W.callWith_K (h₀ := X.base) I.ok.mod.kin T.kC (thn (ha.run pos pins s σ H (fun vs H1 => match vs with | [y] => ∀ dx, H1 dx = none → Q (.ref C) (some dx) (upd H1 dx (.xd [(f, y)])) | _ => False) I h) fun us s1 z => ?_) he hpl
  obtain ⟨vs, H1, I1, r1, q1⟩ := z
  refine ⟨I1.kIn, ?_⟩
  cases r1 with
  | nil => exact q1.elim
  | @cons y u vs us ru rest =>
    cases rest with
    | @cons _ _ _ _ _ _ => exact q1.elim
    | nil =>
      show wpAny _ _ (call (.ref C) [u]) _ _ _
      obtain ⟨h1, g1, d1, t1, os1⟩ := s1
      have kk : ∀ b o, h1.get? b = some o → ((h1.push (PySem.W.kdv_tup [u])).push (PySem.HandSPX.excO C h1.objs.size)).get? b = some o := fun b o z => Heap.get?_push_of_some _ (Heap.get?_push_of_some _ z)
      have hge : ((h1.push (PySem.W.kdv_tup [u])).push (PySem.HandSPX.excO C h1.objs.size)).get? (h1.objs.size + 1) = some (PySem.HandSPX.excO C h1.objs.size) := by heap_get
      have bse : X.base.get? (h1.objs.size + 1) = none := by
        cases z : X.base.get? (h1.objs.size + 1) with
        | none => rfl
        | some o =>
          have := Heap.lt_size (I1.bk _ _ z)
          exact absurd this (by show ¬ (h1.objs.size + 1 < h1.objs.size); omega)
      refine wpAny_call (PySem.HandSPX.call_own F.excBase_ValueError (fun Y => PySem.HandSPX.refsVE_contains Y bm hbm) (I1.kIn _ _ hC) (PySem.W.looks_findIn I1.kIn T.init) (fun self => PySem.W.bind_fn I1.kIn self T.tyI) (by show 1 ≤ sizeLine; decide)
        (sup_init T I1.mod (fun b o z => kk b o (I1.bk b o z)) hsup htop (by have := (Room.make (k := 0) hr C [u] []).dp; omega) hge bse fun h2 t2 dx t0 k2 hd1 hd2 hx hn => ?_))
      obtain ⟨G, gg1, gg2⟩ := restrict h2 fun b => decide (b ≠ h1.objs.size + 1)
      have gk : ∀ b, b ≠ h1.objs.size + 1 → G.get? b = h2.get? b := fun b hb => gg1 b (decide_eq_true hb)
      have ge : G.get? (h1.objs.size + 1) = none := gg2 _ (by simp)
      have hsz : h1.objs.size ≤ dx := Nat.le_trans (by first | (rw [Heap.size_push, Heap.size_push]; omega) | simp [Heap.push] | (simp [Heap.push]; omega)) hd1
      have hold : ∀ b o, h1.get? b = some o → G.get? b = some o := fun b o z => by
        have hb : b ≠ h1.objs.size + 1 := fun w => by
          have := Heap.lt_size z
          rw [w] at this
          exact absurd this (by show ¬ (h1.objs.size + 1 < h1.objs.size); omega)
        rw [gk b hb]
        exact k2 b o hb (kk b o z)
      have J : Inv X pins σ (upd H1 dx (.xd [(f, y)])) ⟨G, g1, d1, t2, os1⟩ := I1.laid (t' := t2) (a := dx) (o := .xd [(f, y)]) (h' := G) hold hsz ⟨_, hn.at fun o z => (gk dx hd2).trans z, relO_put (fs := []) ru fun g => True.intro⟩
      have hfr : H1 (h1.objs.size + 1) = none := I1.hok.fresh (Nat.le_succ _)
      exact ⟨rfl, h1.objs.size + 1, _, _, ⟨G, g1, d1, t2, os1⟩, _, .ref C, some dx, rfl, J, fun b o z => by
        by_cases hb : b = h1.objs.size + 1
        · rw [hb, ge] at z
          cases z
        · exact (gk b hb).symm.trans z, ge, hx, ⟨rfl, rfl⟩, rfl, rfl, by rw [upd_ne (Ne.symm hd2)]; exact hfr, rfl, I1.bare, raises_own T.exC T.tyC, q1 dx (I1.hok.fresh hsz)⟩
end
end Vs

/-! VsC17: raise E(e), E's __init__ keeping the one field f. -/
namespace Vs
open PySem L2 PySem.Spec PyProof.Rows
def zRaiseA (c f : Str) (fv : M OD) : SM := fun ρ => (fv ρ).bind fun v ρ1 => match v with
  | .v d => .exc ⟨c, [f], [d]⟩ ρ1
  | _ => .stuck
section
variable {X : Cx} {G : Gx} {W : WX} {pn : List Nat} {k : Nat} {x f : Str} {e : Expr} {p pos p2 : Pos} {C fI : Addr} {pb : Bool} {fv : M OD}
theorem z_raiseA (T : SupC X.prog X.K C fI f) (K : Ok X G W k true) (hr : Room 1 X.A) (gs : G.mg "super" = none) (htop : (X.prog.main.scope.names.lookup ("super" : Str)).isSome = false) (gC : G.mg x = some (.ref C)) (he : SX X G W pb e fv)
    (hg : Gl X x := by rfl) (hdb : (x == ("__debug__" : Str)) = false := by decide) (hst : starEach [e] X.env = (false, eval e X.env) :: starEach [] X.env := by rfl) (hpl : (backTo pos (starEach [] X.env)).any (·.1) = false := by rfl) :
    SS X G W pn (.Raise (some (.Call (.Name x p) [e] [] pos)) none p2) (zRaiseA x f fv) :=
  PS.of (ps_raise K.c K.t (pmk_sup T hr (K.m gs) htop hg (K.m gC) (pa_cons he pa_nil hst) hdb hst hpl)) fun D σ H h => by
    obtain ⟨F, ρ, A, S, h⟩ := h
    unfold zRaiseA at h
    refine TX.then S h fun v ρ1 F1 H1 y A1 e1 g1 S1 h1 => ?_
    intro dx hdx
    split at h1
    · rename_i d
      obtain ⟨hr, S2⟩ := S1.pop_v
      have n : New F1 H1 (upd F1 dx (.xd [(f, y)])) (upd H1 dx (.xd [(f, y)])) := .frz S2.le hdx
      exact h1 _ _ σ _ (.ref C) (some dx) n.go .refl (S2.new n) ⟨C, gC, rfl, .inr ⟨dx, [(f, y)], rfl, by simp, upd_same, rfl, .one (hr.mono n.lf)⟩⟩
    · exact h1.elim
end
theorem zRaiseA_e {c f : Str} {fv : M OD} {ρ : Env} : zRaiseA c f fv ρ = (fv ρ).bind fun v ρ1 => match v with
  | .v d => .exc ⟨c, [f], [d]⟩ ρ1
  | _ => .stuck := rfl
def rsA {α : Type} (c f : Str) (v : OD) (ρ : Env) : Out α := match v with
  | .v d => .exc ⟨c, [f], [d]⟩ ρ
  | _ => .stuck
end Vs

/-! VsC18: exceptions with a field: facts from the head, raise, isinstance, e.f. -/
namespace Vs
open PySem L2 PySem.Spec PyProof.Rows
/-- what is known of an exception class whose __init__ keeps the field f -/
structure ExA (P : Program) (G : Gx) (x f : Str) (C : Addr) : Prop where
  m : G.mg x = some (.ref C)
  s : ∃ fI, SupC P G.K C fI f
  gs : G.mg "super" = none
  c : ExcC G.K C
  n : PySem.W.findIn G.K (.ref C) f = some none
/-- the def's text -/
def SupD (d : He.DefD) (f : Str) : Prop := ∃ (sf y : Str) (p0 p1 p2 p3 p4 p5 p6 p7 p8 p9 : Pos) (ar : Arg),
  d.body = [.Expr (.Call (.Attribute (.Call (.Name "super" p0) [] [] p1) "__init__" p2) [.Name y p3] [] p4) p5, .Assign [.Attribute (.Name sf p6) f p7] (.Name y p8) p9] ∧
  (∀ (kV doc pm cdv ct : Value) (an : Option Addr) (cc : Addr) (a u : Value), bindArgs (PySem.W.ksFn d.name d.qual d.params [.Expr (.Call (.Attribute (.Call (.Name "super" p0) [] [] p1) "__init__" p2) [.Name y p3] [] p4) p5, .Assign [.Attribute (.Name sf p6) f p7] (.Name y p8) p9] d.scope .none kV doc pm an cdv ct cc) ⟨[a, u], []⟩ = pure [(sf, a), (y, u)]) ∧
  (d.params.posonlyargs ++ d.params.args).head? = some ar ∧ ar.arg = sf ∧ sf ≠ y ∧ d.scope.names.lookup ("super" : Str) = some .globalImplicit ∧ d.scope.names.lookup ("__class__" : Str) = some .free ∧ d.scope.names.lookup sf = some .local ∧ d.scope.names.lookup y = some .local ∧
  d.scope.kind = .function ∧ (∀ x ∈ d.scope.names, x.2 ≠ .cell) ∧ d.scope.isCoroutine = false ∧ d.scope.isGenerator = false ∧ (y == ("__debug__" : Str)) = false ∧ (sf == ("__debug__" : Str)) = false ∧
  (∀ env : PySem.Env, ∃ pl : Sem Bool, eval (.Call (.Attribute (.Call (.Name "super" p0) [] [] p1) "__init__" p2) [.Name y p3] [] p4) env = (do
    let ov ← attributeBase (.Call (.Name "super" p0) [] [] p1) "__init__" env (eval (.Call (.Name "super" p0) [] [] p1) env)
    standAt p2.atName
    let (g, first) ← holding [ov] (getMethod ov "__init__" pl)
    callWith p4 g first (backTo p4 (starEach [.Name y p3] env)) []))
theorem supCB_ok {K : PySem.W.Frag} {C : Addr} (h : supCB K C = true) : ∃ nm q N bs bm sn sub ab col dd k0 k1 k2 k3 k5, K.lookup C = some (excClassObj nm q C N bs bm true sn sub ab col dd k0 k1 k2 k3 k5 "ValueError.__new__") ∧ PySem.HandSPX.refsVE bm = true ∧ PySem.W.alongIn K "__init__" bm = some (some (.builtin "ValueError.__init__")) := by
  unfold supCB at h
  split at h
  · rename_i e
    obtain ⟨a1, h⟩ := He.ba h
    obtain ⟨a2, h⟩ := He.ba h
    obtain ⟨a3, h⟩ := He.ba h
    obtain ⟨a4, h⟩ := He.ba h
    obtain ⟨a5, h⟩ := He.ba h
    obtain ⟨a6, a7⟩ := He.ba h
    have b1 := of_decide_eq_true a1
    have b2 := of_decide_eq_true a2
    have b5 := of_decide_eq_true a5
    have b4 : _ = false := (Bool.not_eq_true' _).mp a4
    subst b1 b2 b5 b4 a3
    exact ⟨_, _, _, _, _, _, _, _, _, _, _, _, _, _, _, e, a6, He.eqO_ok a7⟩
  · cases h
def fnO (K : PySem.W.Frag) (fI : Addr) : FnI := match K.lookup fI with
  | some ⟨_, _, .func fd, _⟩ => some (fd.name, fd.qualname, fd.params, fd.body, fd.scope, fd.globals, fd.closure.map Prod.fst, fd.builtins)
  | _ => none
theorem supIB_ok {K : PySem.W.Frag} {C fI : Addr} {q file : Str} {d : He.DefD} (hq : q = d.qual) (h : supIB K C fI q file = true)
    (hi : fnO K fI = some (d.name, d.qual, d.params, FuncBody.stmts d.body, d.scope, mainGlobals, [("__class__" : Str)], builtinsNs)) :
    ∃ (oc : Value) (od : Option Addr) (osl : Array (Option Value)) (kV doc pm ct : Value) (an : Option Addr) (cc cda : Addr) (ccl : Value) (cdd : Option Addr) (vs : Array Value) (ccs : Array (Option Value)) (tf : Tok) (cl : Value) (cld : Option Addr) (csl : Array (Option Value)),
      K.lookup fI = some ⟨oc, od, .func (PySem.W.ksFn d.name d.qual d.params d.body d.scope .none kV doc pm an (.ref cda) ct cc), osl⟩ ∧ PySem.W.codeIn K (.ref cda) d.qual = true ∧ K.lookup cda = some ⟨ccl, cdd, .fields vs, ccs⟩ ∧ vs[2]? = some (.str file tf) ∧ K.lookup cc = some ⟨cl, cld, .cell (some (.ref C)), csl⟩ := by
  subst hq
  unfold supIB at h
  split at h
  · rename_i oc od fd osl e
    unfold fnO at hi
    rw [e] at hi
    obtain ⟨n1, n2, n3, n4, n5, n6, n7, n8, n9, n10, n11, n12, n13, n14, n15⟩ := fd
    obtain ⟨h1, h2⟩ := He.ba h
    obtain ⟨h34, h5⟩ := He.ba h2
    obtain ⟨h3, h4⟩ := He.ba h34
    have hi2 : (some (n1, n2, n3, n4, n5, n6, n7.map Prod.fst, n15) : FnI) = some (d.name, d.qual, d.params, .stmts d.body, d.scope, mainGlobals, [("__class__" : Str)], builtinsNs) := hi
    injection hi2 with hi3
    simp only [Prod.mk.injEq] at hi3
    obtain ⟨z1, z2, z3, z4, z5, z6, z7, z8⟩ := hi3
    subst z1 z2 z3 z4 z5 z6 z8
    dsimp only at h1 h3 h4 h5
    split at h5
    rotate_left
    · cases h5
    split at h3
    · rename_i cda
      split at h3
      · rename_i ccl cdd vs ccs hco
        split at h3
        · rename_i s tf hvs
          have b := of_decide_eq_true h3
          subst b
          split at h4
          · rename_i nmc cc
            split at h4
            · rename_i cl cld D csl hce
              have b := of_decide_eq_true h4
              subst b
              have z9 : nmc = "__class__" := by simpa using z7
              subst z9
              exact ⟨oc, od, osl, n9, n10, n11, n14, n12, cc, cda, ccl, cdd, vs, ccs, tf, cl, cld, csl, e, h1, hco, hvs, hce⟩
            · cases h4
          · cases h4
        · cases h3
      · cases h3
    · cases h3
  · cases h
section
variable {fa : List He.Fa} {fn : List He.DefD} {cs : List (Str × D)} {xf : List XF} {G : Gx} {P : Program}
structure ExA0 (G : Gx) (x f : Str) (C : Addr) : Prop where
  m : G.mg x = some (.ref C)
  c : ExcC G.K C
  n : PySem.W.findIn G.K (.ref C) f = some none
theorem Hd.exa0 (h : Hd fa fn cs xf G) (i : Nat) {x f file : Str} {d : He.DefD} (e : xf[i]? = some (.exA x f d file) := by rfl) : ExA0 G x f (He.ga G.K x) := by
  obtain ⟨p, X, N⟩ := h.at_
  have hb : exAB G.K x f d file = true := List.all_eq_true.mp (He.ba h.both).2 _ (List.mem_of_getElem? e)
  obtain ⟨b0, hb⟩ := He.ba hb
  obtain ⟨b1, hb⟩ := He.ba hb
  obtain ⟨-, hb⟩ := He.ba hb
  obtain ⟨-, hb⟩ := He.ba hb
  obtain ⟨-, hb⟩ := He.ba hb
  exact ⟨He.glo_ok X N b0, excB_ok b1, He.eqO_ok (He.ba hb).1⟩
theorem Hd.exa (h : Hd fa fn cs xf G) (i : Nat) {x f file : Str} {d : He.DefD} (hS : SupD d f) (hP : ((P.main.file : Str) == file) = true) (e : xf[i]? = some (.exA x f d file) := by rfl) : ExA P G x f (He.ga G.K x) := by
  obtain ⟨p, X, N⟩ := h.at_
  have hb : exAB G.K x f d file = true := List.all_eq_true.mp (He.ba h.both).2 _ (List.mem_of_getElem? e)
  obtain ⟨a0, hb⟩ := He.ba hb
  obtain ⟨a1, hb⟩ := He.ba hb
  obtain ⟨a2, hb⟩ := He.ba hb
  obtain ⟨a3, hb⟩ := He.ba hb
  obtain ⟨a4, hb⟩ := He.ba hb
  obtain ⟨a5, hb⟩ := He.ba hb
  obtain ⟨a6, hb⟩ := He.ba hb
  obtain ⟨a7, hb⟩ := He.ba hb
  obtain ⟨a8, hb⟩ := He.ba hb
  obtain ⟨a9, hb⟩ := He.ba hb
  obtain ⟨a10, hb⟩ := He.ba hb
  obtain ⟨a11, hb⟩ := He.ba hb
  obtain ⟨a12, a13⟩ := He.ba hb
  have hi : XF.fnI G.K (.exA x f d file) = XF.valI (.exA x f d file) := by
    have h1 := congrArg (fun l => l[i]?) h.ini
    simpa only [List.getElem?_map, e, Option.map_some, Option.some.injEq] using h1
  have hE := excB_ok a1
  obtain ⟨oc, od, osl, kV, doc, pm, ct, an, cc, cda, ccl, cdd, vs, ccs, tf, cl, cld, csl, lk, hcd, hco, hvs, hce⟩ := supIB_ok (d := d) rfl a3 hi
  obtain ⟨sf, y, p0, p1, p2, p3, p4, p5, p6, p7, p8, p9, ar, s1, s2, s3, s4, s5, s6, s7, s8, s9, s10, s11, s12, s13, s14, s15, s16⟩ := hS
  rw [s1] at lk
  exact ⟨He.glo_ok X N a0, ⟨He.ma G.K (He.ga G.K x) "__init__", {
    cls := supCB_ok a2
    sa := He.eqO_ok a4
    fld := He.eqO_ok a5
    subV := of_decide_eq_true a6
    exC := hE.hs
    tyC := of_decide_eq_true a7
    kC := a8
    self := of_decide_eq_true a9
    noT := He.eqO_ok a10
    init := He.eqO_ok a11
    tyI := of_decide_eq_true a12
    run := ⟨oc, od, osl, d.name, d.qual, sf, y, d.params, d.scope, .none, kV, doc, pm, ct, an, cc, cda, p0, p1, p2, p3, p4, p5, p6, p7, p8, p9, ccl, cdd, vs, ccs, file, tf, cl, cld, csl, ar, lk, hcd, hco, hvs, hP, hce, fun a u => s2 _ _ _ _ _ _ _ a u, s3, s4, s5, s6, s7, s8, s9, s10, s11, s12, s13, s14, s15, s16⟩ }⟩, PySem.W.mg_none_of X N (He.eqO_ok a13), hE, He.eqO_ok a5⟩
end
section
variable {G : Gx} {W W' : WX} {X : Cx} {k : Nat} {bb pb : Bool} {a : Addr} {d : Option Addr} {x f : Str} {C Z : Addr} {e : Expr} {fv : M OD} {pn : List Nat} {p p2 pos : Pos}
/-- raise C(e) -/
theorem Ok.raiseA (K : Ok X G W k true) (hk : 1 ≤ k) (E : ExA X.prog G x f C) (htop : (X.prog.main.scope.names.lookup ("super" : Str)).isSome = false) (he : SX X G W pb e fv)
    (hg : Gl X x := by rfl) (hdb : (x == ("__debug__" : Str)) = false := by decide) (hst : starEach [e] X.env = (false, eval e X.env) :: starEach [] X.env := by rfl) (hpl : (backTo pos (starEach [] X.env)).any (·.1) = false := by rfl) :
    SS X G W pn (.Raise (some (.Call (.Name x p) [e] [] pos)) none p2) (zRaiseA x f fv) := by
  have hK := K.gK
  obtain ⟨fI, T⟩ := E.s
  rw [hK] at T
  exact z_raiseA T K (K.r.mono hk) E.gs htop E.m he hg hdb hst hpl
/-- isinstance(e, c), e held -/
def rIsA (K : PySem.W.Frag) (Z a : Addr) (d : Option Addr) : List V → Hp → VK → Prop := fun xs H Q => ∃ (c : V) (cv : Value) (b : Bool), xs = [.ref a, c] ∧ (∀ u, RelV c u → u = cv) ∧ (d = none ∨ ∃ dd fs, d = some dd ∧ H dd = some (.xd fs)) ∧ PySem.W.kitOne K (.ref Z) cv = some b ∧ Q (.bl b) H
theorem call_isA {oe : Obj} {pn' : List (Addr × Obj)} (T : ExcC X.K Z) (hz : Zc (.ref Z) d oe) (hv : ∃ vs, oe.data = .fields vs) : CallR (X.suite a ((a, oe) :: pn')) (.builtin "isinstance") (rIsA X.K Z a d) := by
  intro pins s σ H xs us Q I r h
  obtain ⟨c, cv, b, rfl, hcv, hd, e1, q⟩ := h
  obtain ⟨vs, hv⟩ := hv
  obtain ⟨cdD, hcD, _⟩ := PySem.W.any_some T.hd
  cases r with
  | @cons _ ua _ uts ra rr =>
    cases rr with
    | @cons _ ub _ _ rb rn =>
      cases rn
      obtain rfl : ua = .ref a := ra
      obtain rfl := hcv ub rb
      obtain ⟨hget, -⟩ := I.pin (a, oe) (List.mem_append_left _ (.head _))
      have J : ∃ od : Option Obj, PySem.W.InstAt s.heap a oe Z od := by
        rcases hd with z | ⟨dd, fs, z, hH⟩
        · exact ⟨none, hget, hz.1, by unfold PySem.W.notCls; rw [hv] <;> trivial, by rw [hz.2, z]; trivial⟩
        · obtain ⟨mA, hns, -⟩ : ObjOk X.prog X.w H s.heap dd (.xd fs) := I.hok dd _ hH
          obtain ⟨od, ho, -⟩ := lookIn_ns hns
          exact ⟨some od, hget, hz.1, by unfold PySem.W.notCls; rw [hv] <;> trivial, by rw [hz.2, z]; exact ho⟩
      obtain ⟨od, J⟩ := J
      exact PySem.W.kia_one (PySem.W.kitx_exc (by rw [hcD] <;> rfl) T.hg T.hk T.hs T.ha T.hn T.ht T.hm) I.kIn J e1 (fun z => by cases z) fun tk => ⟨.bl b, H, I.kept (t' := tk) fun _ _ z => z, rfl, q⟩
def mIsA (i : Nat) (r : Option Bool) : M OD := fun ρ => match ρ[i]?, r with
  | some (some (.v (.exn _ _))), some b => .ok (.v (.bl b)) ρ
  | _, _ => .stuck
theorem e_isA {i : Nat} {y : Str} {oe : Obj} {pn' : List (Addr × Obj)} {r : Option Bool} {q : Pos} (K : Ok X G W k bb) (E : ExcC G.K Z) (hz : Zc (.ref Z) d oe) (hv : ∃ vs, oe.data = .fields vs) (hm : G.mg "isinstance" = none) (hC : G.mg y = some (.ref C))
    (hr : ∀ b, r = some b → PySem.W.kitOne G.K (.ref Z) (.ref C) = some b) (he : PE (X.suite a ((a, oe) :: pn')) e (tVar i)) (hg : Gl X "isinstance" := by rfl) (hgy : Gl X y := by rfl) (hdy : (y == ("__debug__" : Str)) = false := by decide)
    (hs : starEach [e, .Name y q] X.env = (false, eval e X.env) :: starEach [.Name y q] X.env := by rfl) (hs2 : starEach [.Name y q] X.env = [(false, eval (.Name y q) X.env)] := by rfl) (hpl : (backTo pos (starEach [.Name y q] X.env)).any (·.1) = false := by rfl) :
    SX (X.suite a ((a, oe) :: pn')) ⟨G.K, G.mg, a, d⟩ W0 true (.Call (.Name "isinstance" p) [e, .Name y q] [] pos) (mIsA i r) := by
  have hK := K.gK
  refine PE.of (pe_callB (call_isA (a := a) (Z := Z) (d := d) (oe := oe) (pn' := pn') (by rw [← hK]; exact E) hz hv) hg (K.m hm) rfl (pa_cons he (pa_cons (pe_glob (v := .ref C) hgy (K.m hC) rfl hdy) pa_nil hs2) hs) (by decide) (by decide) hs hpl) fun σ H Q z => ?_
  obtain ⟨F, ρ, A, κ, ς, S, hl, z⟩ := z
  unfold mIsA at z
  split at z
  · rename_i fs ds b e1
    obtain ⟨v, A1, A2, h1, h2, h3, c⟩ := S.sl.at (getKap (κ := κ) e1)
    rw [getSig hl] at h1
    simp only [OT, Rep] at h2
    obtain ⟨⟨hva, hx⟩, _⟩ := h2
    subst hva
    refine ⟨_, h1, .ref C, .ref C, b, rfl, fun u w => w, ?_, ?_, z F H (.bl b) A .refl (S.push_v (by simp only [Rep]))⟩
    · rcases hx with ⟨w, -, -⟩ | ⟨dd, fvs, w, -, w2, -, -⟩
      · exact .inl w
      · exact .inr ⟨dd, fvs, w, S.le _ _ w2⟩
    · show PySem.W.kitOne X.K _ _ = _
      rw [← hK]
      exact hr b rfl
  · exact z.elim
/-- e.f, e held -/
def zipF : List Str → List D → Str → Option D
  | g :: gs, v :: vs, f => if f = g then some v else zipF gs vs f
  | _, _, _ => none
def mXf (i : Nat) (f : Str) (r : Bool) : M OD := fun ρ => match ρ[i]?, r with
  | some (some (.v (.exn fs vs))), true => match zipF fs vs f with
    | some v => .ok (.v v) ρ
    | none => .stuck
  | _, _ => .stuck
theorem zipF_ok {F : Hp} {f : Str} {v : D} : ∀ {fvs : List (Str × V)} {ds : List D}, Reps G F ds (fvs.map Prod.snd) → zipF (fvs.map Prod.fst) ds f = some v → ∃ u, fvs.lookup f = some u ∧ Rep G F v u
  | [], ds, _, h => by simp [zipF] at h
  | (g, u) :: r, [], _, h => by simp [zipF] at h
  | (g, u) :: r, d :: ds, hr, h => by
    simp only [List.map_cons, Reps] at hr
    obtain ⟨v1, vs1, h1, h2, h3⟩ := hr
    injection h1 with h4 h5
    subst h4 h5
    simp only [List.map_cons, zipF] at h
    by_cases c : f = g
    · rw [if_pos c] at h
      cases h
      exact ⟨u, by simp [List.lookup, c], h2⟩
    · rw [if_neg c] at h
      obtain ⟨w, w1, w2⟩ := zipF_ok h3 h
      refine ⟨w, ?_, w2⟩
      have : (f == g) = false := by simpa using c
      rw [List.lookup_cons, this]
      exact w1
theorem e_xf {i : Nat} {oe : Obj} {pn' : List (Addr × Obj)} {r : Bool} (K : Ok X G W k bb) (E : ExcC G.K Z) (hz : Zc (.ref Z) d oe) (hv : ∃ vs, oe.data = .fields vs) (hr : r = true → PySem.W.findIn G.K (.ref Z) f = some none)
    (he : PE (X.suite a ((a, oe) :: pn')) e (tVar i)) (hb : attributeBase e f X.env (eval e X.env) = eval e X.env := by rfl) :
    SX (X.suite a ((a, oe) :: pn')) ⟨G.K, G.mg, a, d⟩ W0 true (.Attribute e f pos) (mXf i f r) := by
  have hK := K.gK
  cases r with
  | false =>
    exact PE.of (t := fun _ _ _ => False) ⟨fun _ _ _ _ _ _ w => False.elim w⟩ fun σ H Q z => by
      obtain ⟨F, ρ, A, κ, ς, S, hl, z⟩ := z
      unfold mXf at z
      split at z
      · rename_i w; cases w
      · exact z.elim
  | true =>
    refine PE.of (pe_xf (a := a) (oe := oe) (cls := .ref Z) (d := d) (pn := pn') (C := Z) ⟨by rw [← hK]; exact E.hg, by rw [← hK]; exact E.hk, by rw [← hK]; exact E.hs, by rw [← hK]; exact E.hd⟩ (by rw [← hK]; exact hr rfl) hz hv he hb) fun σ H Q z => ?_
    obtain ⟨F, ρ, A, κ, ς, S, hl, z⟩ := z
    unfold mXf at z
    split at z
    · rename_i fs ds e1 _
      obtain ⟨v, A1, A2, h1, h2, h3, c⟩ := S.sl.at (getKap (κ := κ) e1)
      rw [getSig hl] at h1
      simp only [OT, Rep] at h2
      obtain ⟨⟨hva, hx⟩, _⟩ := h2
      subst hva
      split at z
      · rename_i w ew
        rcases hx with ⟨_, g1, g2⟩ | ⟨dd, fvs, w1, -, w2, w3, w4⟩
        · subst g1
          simp [zipF] at ew
        · subst w3
          obtain ⟨u, l1, l2⟩ := zipF_ok w4 ew
          exact ⟨_, h1, rfl, rfl, dd, fvs, u, w1, S.le _ _ w2, l1, z F H u A .refl (S.push_v l2)⟩
      · exact z.elim
    · exact z.elim
end
theorem mIsA_e {i : Nat} {r : Option Bool} {ρ : Vs.Env} : mIsA i r ρ = match ρ[i]?, r with
  | some (some (.v (.exn _ _))), some b => .ok (.v (.bl b)) ρ
  | _, _ => .stuck := nr rfl
theorem mXf_e {i : Nat} {f : Str} {r : Bool} {ρ : Vs.Env} : mXf i f r ρ = match ρ[i]?, r with
  | some (some (.v (.exn fs vs))), true => match zipF fs vs f with
    | some v => .ok (.v v) ρ
    | none => .stuck
  | _, _ => .stuck := nr rfl
end Vs

/-! VsC19: recursion that goes deep: one frame for each level. -/
namespace Vs
open PySem L2 PySem.Spec PyProof.Rows
/-- room for n frames -/
structure Rm (n : Nat) (A : Around) : Prop where
  hd : A.handled = none
  dp : A.depth + n + 40 < recursionLimit
  un : A.units + 3 * n + 400 < cLine
theorem Rm.deeper {n : Nat} {A : Around} (r : Rm (n + 1) A) (env : PySem.Env) : Rm n (A.deeper env) :=
  ⟨r.hd, by have h := r.dp; show A.depth + 1 + n + 40 < _; omega, by have h := r.un; show A.units + 3 + 3 * n + 400 < _; omega⟩
theorem Rm.room {n : Nat} {A : Around} (r : Rm n A) : Room 8 A := ⟨r.hd, by have := r.dp; omega, by have := r.un; omega⟩
theorem Rm.of {n k : Nat} {A : Around} (h1 : n + 35 ≤ 3 * k) (h2 : 3 * n + 200 ≤ 16 * k) (r : Room k A) : Rm n A := ⟨r.hd, by have := r.dp; omega, by have := r.un; omega⟩
structure FnD (P : Program) (w : World) (K : PySem.W.Frag) (mg : Str → Option Value) (base : Heap) (n : Nat) (f : Addr) (fd : FuncData) (ps : List Str) (sp : Sp) : Prop where
  len : ∀ vs H Q E, sp vs H Q E → vs.length = ps.length
  run : ∀ (A : Around) (outer : List PySem.Env) (s : Shared) (H : Hp) (args : Args) (us : List Value) (vs : List V) (Q : VK) (E : XK), Rm n A → Env0 P w K mg base A outer s H → BindsTo s fd args (ps.zip us) → Vals vs us → sp vs H Q E →
    codeAny (model P w) A (.call (.ref f) args) (CR (L2.CX P w) outer P w H s Q E) s
section
variable {P : Program} {w : World} {K : PySem.W.Frag} {mg : Str → Option Value} {base : Heap} {n : Nat} {f : Addr} {name qual : Str} {params : Arguments} {body : List Stmt} {scope : Scope} {dV kV doc pm cdv ct oc : Value} {an od : Option Addr} {osl : Array (Option Value)} {N ps : List Str} {sp : Sp}
theorem fnd_of (S : FnScope N ps scope) (lk : K.lookup f = some ⟨oc, od, .func (PySem.W.fnOf name qual params body scope dV kV doc pm an cdv ct), osl⟩) (hcd : PySem.W.codeIn K cdv qual = true)
    (len : ∀ vs H Q E, sp vs H Q E → vs.length = ps.length)
    (hb : ∀ (A : Around) (outer : List PySem.Env) (s : Shared) (H : Hp) (vs : List V) (Q : VK) (E : XK), Rm n (A.deeper (envOfC qual scope s.heap.objs.size f cdv)) → sp vs H Q E →
      ∃ t, PSs (cxOf (L2.CX P w) P w K mg base N qual scope f cdv A outer s H E) body t ∧ t { nx := fun _ H' => Q .non H', rt := Q } (L2.start N vs) H) :
    FnD P w K mg base (n + 1) f (PySem.W.fnOf name qual params body scope dV kV doc pm an cdv ct) ps sp := ⟨len, by
  intro A outer s H args us vs Q E rm env0 bnd rel hsp
  have keep : ∀ a o, base.get? a = some o → s.heap.get? a = some o := fun a o z => (env0.bs a o z).1
  have hlen := len _ _ _ _ hsp
  have rooms : A.depth < recursionLimit := by have := rm.dp; omega
  have kinds : ∀ q ∈ ps.zip us, scope.names.lookup q.1 = some .local ∨ (scope.names.lookup q.1 = some .cell ∧ ((cellsFrom (s.heap.objs.size + 1) scope.names []).lookup q.1).isSome = true) := by
    rintro ⟨a, b⟩ hq
    have z := S.par a (List.of_mem_zip hq).1
    exact z.imp id fun z => ⟨z, PySem.W.cellsFrom_some _ _ _ (.inl z)⟩
  refine codeAny_call_function rooms (env0.mod.kin.keeps keep _ _ lk) rfl S.co S.gen rfl (PySem.W.codeRec_of (env0.mod.kin.keeps keep) hcd) (bnd _ _ _ _ (wpAny_newFunctionEnv_cells S.kind kinds fun env henv s1 x => ?_))
  subst henv
  refine ⟨(env0.mod.nolimit.keeps keep).keeps x.toInCall.keep, codeAny_func ?_⟩
  obtain ⟨t, ht, ht2⟩ := hb A outer s H vs Q E (rm.deeper _) hsp
  refine wpAny_mono (ht.run [] s1 (L2.start N vs) H _ (inv_start S rm.hd env0 hlen rel x) ht2) (fun fl s2 z => ?_) fun _ _ z => z
  cases fl with
  | ret u =>
    obtain ⟨v, _, H2, J, r2, q2⟩ := z
    exact ⟨v, H2, J.os, J.bare, J.base, J.hok, r2, q2⟩
  | next =>
    obtain ⟨_, H2, J, q2⟩ := z
    exact ⟨.non, H2, J.os, J.bare, J.base, J.hok, rfl, q2⟩
  | brk => exact z.choose_spec.choose_spec.2.elim
  | cont => exact z.choose_spec.choose_spec.2.elim⟩
end
section
variable {G : Gx}
/-- a def's body by its mirror, at one entry -/
theorem def_body {P : Program} {w : World} {K : PySem.W.Frag} {mg : Str → Option Value} {base : Heap} {qual : Str} {scope : Scope} {body : List Stmt} {f : Addr} {N ps : List Str} {mask : List Bool} {m : SM} {cdv : Value} {A : Around} {outer : List PySem.Env} {s : Shared} {H : Hp} {vs : List V} {Q : VK} {E : XK}
    (hm : mask.length = ps.length) (hb : SSs (cxOf (L2.CX P w) P w K mg base N qual scope f cdv A outer s H E) G (fun cls d _ H => E cls d H) (pnOf mask 0) body m) (h : spOf G (defM N.length mask m) vs H Q E) :
    ∃ t, PSs (cxOf (L2.CX P w) P w K mg base N qual scope f cdv A outer s H E) body t ∧ t { nx := fun _ H' => Q .non H', rt := Q } (L2.start N vs) H := by
  obtain ⟨F, ods, A0, S1, h⟩ := h
  have hl := S1.sl.len
  simp only [List.length_map] at hl
  unfold defM at h
  by_cases hlo : ods.length = mask.length
  · rw [if_pos hlo] at h
    refine ⟨_, hb, ?_⟩
    have hst : L2.start N vs = vs.map some ++ List.replicate (N.length - ods.length) none := by unfold L2.start; rw [hl]
    have SJ : Stt G F H (ods.map some ++ List.replicate (N.length - ods.length) none) (L2.start N vs) A0 := by
      rw [hst]
      exact ⟨S1.le, S1.sl.join Sl.nones (.nil_r fun _ z => z), S1.fr⟩
    have pinv : ∀ {σ' : L2.St}, Pin (pnOf mask 0) (L2.start N vs) σ' → ∀ i v, mask[i]? = some true → vs[i]? = some v → σ'[i]? = some (some v) := fun {σ'} p i v e1 e2 => by
      have := p i (by have := pnOf_mem (k := 0) e1; simpa using this)
      rw [this, hst, List.getElem?_append_left (by simpa using (List.getElem?_eq_some_iff.mp e2).1), List.getElem?_map, e2]
      rfl
    have hml : mask.length = vs.length := by omega
    refine ⟨F, _, A0, SJ, ?_⟩
    cases eq : m (ods.map some ++ List.replicate (N.length - ods.length) none) with
    | stuck => rw [eq] at h; exact h.elim
    | exc x ρ' =>
      rw [eq] at h
      intro F' H' σ' A' cls d g p S' xr
      obtain ⟨A2, h3, sub⟩ := back_run S'.sl hml (pinv p)
      exact h F' H' A2 cls d (g.less sub) ⟨S'.le, h3, fun a z => S'.fr a (sub a z)⟩ xr
    | ok fl ρ' =>
     rw [eq] at h
     cases fl with
     | bk => exact h.elim
     | ct => exact h.elim
     | rt od =>
      intro F' H' σ' A' g p v S'
      obtain ⟨B, A1, h1, S2, c, hB⟩ := S'.pop
      obtain ⟨A2, h3, sub⟩ := back_run S2.sl hml (pinv p)
      refine h F' H' v (fun a => B a ∨ A2 a) (g.less fun a z => z.elim (fun b => c.l b) fun b => c.r (sub a b)) ⟨S2.le, ?_, fun a z => z.elim (hB a) fun b => S2.fr a (sub a b)⟩
      simp only [Sl]
      exact ⟨_, _, B, A2, rfl, h1, h3, .mk' _ _ fun a b1 b2 => c.2 a b1 (sub a b2)⟩
     | nx =>
      intro F' H' σ' A' g p S'
      obtain ⟨A2, h3, sub⟩ := back_run S'.sl hml (pinv p)
      exact h F' H' .non A2 (g.less sub) (Stt.push_v ⟨S'.le, h3, fun a z => S'.fr a (sub a z)⟩ (by simp only [Rep]))
  · rw [if_neg hlo] at h; exact h.elim
structure CalD (P : Program) (w : World) (G : Gx) (base : Heap) (n : Nat) (x : Str) (ps : List Str) (f : FnM) : Prop where
  ex : ∃ fa fd, G.mg x = some (.ref fa) ∧ PySem.W.keepIn G.K (.ref fa) = true ∧ Binds G.K fd ps [] ∧ FnD P w G.K G.mg base n fa fd ps (spOf G f)
theorem CalD.cal {P : Program} {w : World} {base : Heap} {n k : Nat} {x : Str} {ps : List Str} {f : FnM} (c : CalD P w G base n x ps f) (h1 : n + 35 ≤ 3 * k := by decide) (h2 : 3 * n + 200 ≤ 16 * k := by decide) : Cal P w G base k x ps f := by
  obtain ⟨fa, fd, a, b, c, g⟩ := c.ex
  exact ⟨fa, fd, a, b, c, g.len, fun A outer s H args us vs Q E hr => g.run A outer s H args us vs Q E (Rm.of h1 h2 hr)⟩
variable {x qual : Str} {params : Arguments} {body : List Stmt} {scope : Scope} {fa : Addr} {fd : FuncData} {N ps : List Str} {mask : List Bool} {m : SM} {P : Program} {w : World} {base : Heap} {n : Nat}
theorem cald_ok (Fn : FunD G.K x qual params body scope [] [] fa fd) (hx : G.mg x = some (.ref fa)) (S : FnScope N ps scope)
    (hm : mask.length = ps.length) (hbi : ∀ (kV doc pm : Value) (an : Option Addr) (cdv ct : Value) (us : List Value), us.length = ps.length → bindArgs (PySem.W.fnOf x qual params body scope .none kV doc pm an cdv ct) ⟨us, []⟩ = pure (ps.zip us))
    (hb : ∀ (cdv : Value) (A : Around) (outer : List PySem.Env) (s : Shared) (H : Hp) (E : XK), Rm n (A.deeper (envOfC qual scope s.heap.objs.size fa cdv)) →
      SSs (cxOf (L2.CX P w) P w G.K G.mg base N qual scope fa cdv A outer s H E) G (fun cls d _ H => E cls d H) (pnOf mask 0) body m) :
    CalD P w G base (n + 1) x ps (defM N.length mask m) := by
  refine ⟨fa, fd, hx, Fn.kp, Fn.bindsN hbi, ?_⟩
  obtain ⟨oc, od, dV, kV, doc, pm, an, cdv, ct, osl, h1, lk, hcd, -, -⟩ := Fn.ex
  subst h1
  refine fnd_of S lk hcd (fun vs H Q E h => ?_) fun A outer s H vs Q E hr h => def_body hm (hb cdv A outer s H E hr) h
  obtain ⟨F, ods, A, S1, h⟩ := h
  have hl := S1.sl.len
  simp only [List.length_map] at hl
  unfold defM at h
  by_cases hlo : ods.length = mask.length
  · omega
  · rw [if_neg hlo] at h; exact h.elim
theorem cald_zero (Fn : FunD G.K x qual params body scope [] [] fa fd) (hx : G.mg x = some (.ref fa))
    (hbi : ∀ (kV doc pm : Value) (an : Option Addr) (cdv ct : Value) (us : List Value), us.length = ps.length → bindArgs (PySem.W.fnOf x qual params body scope .none kV doc pm an cdv ct) ⟨us, []⟩ = pure (ps.zip us)) : CalD P w G base n x ps (fun _ => .stuck) :=
  ⟨fa, fd, hx, Fn.kp, Fn.bindsN hbi, ⟨fun vs H Q E h => by obtain ⟨_, _, _, _, z⟩ := h; exact z.elim, fun _ _ _ _ _ _ _ _ _ _ _ _ _ h => by obtain ⟨_, _, _, _, z⟩ := h; exact z.elim⟩⟩
end
section
variable {X : Cx} {G : Gx} {W : WX} {k n : Nat} {x : Str} {e : Expr} {es : List Expr} {p pos : Pos} {as : List Opd} {ps : List Str} {f : FnM}
theorem run_fnD {fa : Addr} {fd : FuncData} {sp : Sp} {E : L2.St → XK} {pins : List (Addr × Obj)} {σ : L2.St} {H : Hp} {s : Shared} {Q : VK} {us : List Value} {vs : List V} (D : FnD X.prog X.w X.K X.mg X.base n fa fd ps sp) (hr : Rm n X.A) (hb : Binds X.K fd ps []) (hx : PassesAt (L2.CX X.prog X.w) X σ (E σ))
    (I : Inv X pins σ H s) (rel : Vals vs us) (h : sp vs H Q (E σ)) : wpAny (model X.prog X.w) X.A (call (.ref fa) us) (EP X pins σ Q) X.xe s := by
  have hlen : us.length = ps.length := (rel.length).symm.trans (D.len _ _ _ _ h)
  have b1 := hb s us I.kIn
  simp only [List.append_nil] at b1
  refine wpAny_call (codeAny_mono (D.run X.A X.stack s H ⟨us, []⟩ us vs Q (E σ) hr I.env0 (b1 hlen) rel h) ?_)
  rintro (er | fl) s2 z
  · exact hx pins H s er s2 I z
  · match fl, z with
    | .ret u, z => exact I.after z
    | .next, z => exact z.elim
    | .brk, z => exact z.elim
    | .cont, z => exact z.elim
theorem pe_callD {fa : Addr} {fd : FuncData} {sp : Sp} {E : L2.St → XK} {t : TA} (D : FnD X.prog X.w X.K X.mg X.base n fa fd ps sp) (hr : Rm n X.A) (hg : Gl X x) (hm : X.mg x = some (.ref fa)) (hk : PySem.W.keepIn X.K (.ref fa) = true) (hb : Binds X.K fd ps []) (hx : ∀ σ, PassesAt (L2.CX X.prog X.w) X σ (E σ))
    (ha : PA X (e :: es) t) (hdb : (x == ("__debug__" : Str)) = false := by decide) (he : starEach (e :: es) X.env = (false, eval e X.env) :: starEach es X.env := by rfl) (hpl : (backTo pos (starEach es X.env)).any (·.1) = false := by rfl) :
    PE X (.Call (.Name x p) (e :: es) [] pos) (tCallS sp E t) := ⟨by
  intro pins s σ H Q I h
  refine wpAny_Call_Name_kw (ld_glob I hg hm (PySem.W.callWith_K I.ok.mod.kin hk (thn (ha.run pos pins s σ H _ I h) fun us s1 z => ?_) he hpl) hdb)
  obtain ⟨vs, H1, J, rel, q⟩ := z
  exact ⟨J.kIn, run_fnD D hr hb (hx σ) J rel q⟩⟩
theorem e_calD (K : Ok X G W k true) (hr : Rm n X.A) (c : CalD X.prog X.w G X.base n x ps f) (ha : PA X (e :: es) (tAll G W as)) (hg : Gl X x := by rfl) (hdb : (x == ("__debug__" : Str)) = false := by decide)
    (he : starEach (e :: es) X.env = (false, eval e X.env) :: starEach es X.env := by rfl) (hpl : (backTo pos (starEach es X.env)).any (·.1) = false := by rfl) :
    SX X G W (pAll as && noPlc as) (.Call (.Name x p) (e :: es) [] pos) (mCall f as) := by
  obtain ⟨fa, fd, a, b, c, g⟩ := c.ex
  rw [K.gK, K.gm] at g
  rw [K.gK] at b c
  exact PE.of (pe_callD g hr hg (K.m a) b c (fun σ => passAt K.t σ) ha hdb he hpl) fun σ H Q q => calls_run (fun _ _ _ z => z) q
end
end Vs

/-! VsC20: truth of an owned list of anything. -/
namespace Vs
open PySem L2 PySem.Spec PyProof.Rows
def bTruL (i : Nat) (π : List PStep) : M Bool := fun ρ => match slotAt ρ i π with
  | some (.l xs) => .ok (!xs.isEmpty) ρ
  | _ => .stuck
theorem bTruL_e {i : Nat} {π : List PStep} {ρ : Env} : bTruL i π ρ = match slotAt ρ i π with
  | some (.l xs) => .ok (!xs.isEmpty) ρ
  | _ => .stuck := nr rfl
section
variable {G : Gx} {W : WX} {X : Cx} {e : Expr} {i k : Nat} {π : List PStep} {bb : Bool} {F H : Hp}
theorem OTs.len0 : ∀ {xs : List OD} {vs : List V} {B : AS}, OTs G F H xs vs B → vs.isEmpty = xs.isEmpty
  | [], vs, B, h => by
    simp only [OTs] at h
    rw [h.1] <;> rfl
  | x :: xs, vs, B, h => by
    simp only [OTs] at h
    obtain ⟨v, r, B1, B2, rfl, _⟩ := h
    rfl
theorem sb_truL (K : Ok X G W k bb) (ha : PP X G e i π) (he : ∀ whole, isTrue e X.env whole = (do let v ← whole; standAt e.pos; holding [v] (truthy v)) := by intro _; rfl) : SB X G W true e (bTruL i π) :=
  PT.of (pt_truth ha he) fun σ H Q q => by
    obtain ⟨F, ρ, A, κ, ς, S, hl, z⟩ := q
    unfold bTruL at z
    split at z
    · rename_i xs e1
      obtain ⟨od, e2, e3⟩ := slotAt_some e1
      obtain ⟨v0, A1, A2, h1, _⟩ := S.sl.at (getKap (κ := κ) e2)
      obtain ⟨w, B, C, h2, h3, _⟩ := S.part (getKap (κ := κ) e2) e3 h1
      rw [getSig hl] at h1
      simp only [OT] at h3
      obtain ⟨p, vs, B1, rfl, h5, h6, h7, h8⟩ := h3
      exact ⟨v0, .ref p, h1, h2, !xs.isEmpty, .inl ⟨vs, .inl (.inl h5), by rw [OTs.len0 h6]⟩, z F H A .refl S⟩
    · exact z.elim
end
end Vs

open Vs PySem L2
local macro_rules
  | `(tactic| simp! only [$ls,*]) => `(tactic| simp only [↓bind_e, bindL_ok, bindL_exc, bindL_stuck, defM_e, mApp_e, mBm_e, mTake_e, mC_e, mVar_e, gotV_some, mFz_e, asB_e, isB_bl, mB_e, bAnd_e, bOr_e, bNot_e, mIf_e, zNext_e, zBreak_e, zCont_e, thenS_nx, thenS_rt, thenS_bk, thenS_ct, zSeq_e, zSet_e, zRet_e, zRetN_e, zDrop_e, zIf_e, zSetIx_e, zForIn_e, zLoop_nx, zLoop_ct, zLoop_bk, zLoop_rt, ofO_some, ofS_some, ofI_some, zIt_e, zRng1_e, callO_some, retO_ok, retO_exc, mCall_e, takeP_some, takeAll_nil, takeAll_own, takeAll_plc, putP_none, putBack_plc, putBack_own, putBack_nil, retD_rt, retD_nx, retD_exc, opIx_lst, opIx_rol, opIx_tup, opEq_int, opNe_int, opEq_str, opNe_str, opAdd_int, opSub_int, opLt_int, opLe_int, opGt_int, opGe_int, opAbs_int, opInt_int, opInt_bl, opLen_lst, opLen_rol, opLen_tup, opList_lst, opList_rol, opList_tup, fz_v, fz_l, fzs_nil, fzs_cons, fzs_mv, shs_nil, shs_cons, shs_v, sh_v, sh_l, ev_val, ev_plc, evAll_nil, evAll_cons, okPl_nil, okPl_val, okPl_plc, res_nil, res_own, res_plc, putS_e, putIx_l, back_nil, back_t, back_f, tgt_name, tgt_tup, setAll_nil, setAll_cons, items_lst, items_tup, items_str, slotIs, T_str, T_list, T_dict, T_int, isKd, kdOf, beq_self_eq_true, kLst_e, kLstO_e, kTup_e, mLst_e, mLstO_e, mTup_e, mDict_e, wipeE_nil, wipeE_cons, atI_0, ixN_0, atI_1, ixN_1, atI_2, ixN_2, atI_3, ixN_3, atI_4, ixN_4, atI_5, ixN_5, atI_6, ixN_6, atI_7, ixN_7, atI_8, ixN_8, atI_9, ixN_9, atI_10, ixN_10, atI_11, ixN_11, atI_12, ixN_12, atI_13, ixN_13, atI_14, ixN_14, atI_15, ixN_15, ixN_nat, atI_ofNat, opMul_r, opMul_l, opFdv_p, opMod_p, opPow_10_18, or_true, true_or, Int.reduceLT, Int.reduceNeg, Int.reduceLE, Int.reducePow, Int.reduceEq, Int.natAbs, Int.reduceAbs, N.Out_bind_ok, N.Out_bind_exc, N.Out_bind_stuck, N.Option_map_some, N.Option_map_none, N.Option_bind_some, N.Option_bind_none, N.Option_join_some, N.Option_isSome_some, Bool.and_true, Bool.true_and, Bool.and_self, Bool.or_true, Bool.true_or, Bool.or_false, Bool.false_or, Bool.not_true, Bool.not_false, Bool.false_eq_true, if_true, if_false, ite_true, ite_false, N.List_length_cons, N.List_length_nil, N.List_map_cons, N.List_map_nil, N.List_cons_append, N.List_nil_append, List.replicate, N.List_getElemQ_cons_zero, N.List_getElemQ_cons_succ, N.List_set_cons_zero, N.List_set_cons_succ, decide_true, decide_false, reduceIte, Nat.reduceAdd, Nat.reduceSub, Nat.reduceLT, Nat.reduceLeDiff, Nat.reduceEqDiff, Nat.zero_add, Nat.succ_eq_add_one, eq_self, ne_eq, not_true_eq_false, not_false_eq_true, and_self, and_true, true_and, isi_str_non, isi_str_bl, isi_str_int, isi_str_str, isi_str_tup, isi_str_lst, isi_str_rol, isi_str_dk, isi_int_non, isi_int_bl, isi_int_int, isi_int_str, isi_int_tup, isi_int_lst, isi_int_rol, isi_int_dk, isi_bool_non, isi_bool_bl, isi_bool_int, isi_bool_str, isi_bool_tup, isi_bool_lst, isi_bool_rol, isi_bool_dk, isi_tuple_non, isi_tuple_bl, isi_tuple_int, isi_tuple_str, isi_tuple_tup, isi_tuple_lst, isi_tuple_rol, isi_tuple_dk, isi_list_non, isi_list_bl, isi_list_int, isi_list_str, isi_list_tup, isi_list_lst, isi_list_rol, isi_list_dk, isi_dict_non, isi_dict_bl, isi_dict_int, isi_dict_str, isi_dict_tup, isi_dict_lst, isi_dict_rol, isi_dict_dk, opIsN_bl, opNotN_bl, opIsN_int, opNotN_int, opIsN_str, opNotN_str, opIsN_tup, opNotN_tup, opIsN_lst, opNotN_lst, opIsN_rol, opNotN_rol, opIsN_dk, opNotN_dk, opIsN_non, opNotN_non, opMin_int, opMax_int, opNeg_int, opTuple_lst, opTuple_rol, opTuple_tup, opLen_dk, opLt_str, opLe_str, opIn_1, opIn_dk, opIn_dki, opIn_dkn, mChain_e, chainC_e, chainD_e, gLe_e, gLt_e, isLs_l, zApp_e, mvO_some, mMv_o, slotAt_e, getP_v, mGet_e, mPop_e, popP_snoc, zAppP_e, zTryAs_e, tryA_ok, zRaise0_e, Bool.false_xor, Bool.true_xor, decide_not, Bool.not_not, or_false, false_or, false_and, and_false, natCast_0, natCast_1, natCast_2, natCast_3, natCast_4, natCast_5, natCast_6, natCast_7, natCast_8, natCast_9, natCast_10, natCast_11, natCast_12, natCast_13, natCast_14, natCast_15, natCast_16, natCast_17, natCast_18, natCast_19, natCast_20, natCast_21, natCast_22, natCast_23, natCast_24, natCast_25, natCast_26, natCast_27, natCast_28, natCast_29, natCast_30, opTru_non, opTru_bl, opTru_int, opTru_tup, opTru_lst, opTru_rol, shs_map, shs_mapf, fzs_mapf, mTakeO_e, mLstQ_e, takeQ_some, takeO_nil, takeO_own, takeO_plc, opListA_lst, opListA_rol, opListA_tup, opListA_dk, mDict0_e, zAug_e, augO_int, fAdd_e, fSub_e, zSetF_e, zAugF_e, augFO_int, augFP_int, mMake_e, opKIn_e, opKIx_e, opDictA_lst, opDictA_dk, $ls,*])
namespace Lw
open PySem L2 Vs
def top (i : Nat) : Stmt := PySem.Challenge.pw_hewstream_k11_words.main.body.getD i (.Pass ⟨0, 0, 0, 0⟩)
def c_FIRST_SIGN : D := .int 32
def c_LAST_SIGN : D := .int 126
def c_NO_SIGN : D := .int 37
def c_SIGNS : D := .str " !\"#$ &'()*+,-./0123456789:;<=>?@ABCDEFGHIJKLMNOPQRSTUVWXYZ[\\]^_`abcdefghijklmnopqrstuvwxyz{|}~"
def c_DIGITS : D := .str "0123456789"
def c_MOST_DIGITS : D := .int 9
def ts : List (Str × Kvs) := []
def WN : Nat := 4096
def sub_StreamError : Str → Option Bool := fun y => if y = "BadByte" then some true else if y = "NotValid" then some true else none
def sub_BadByte : Str → Option Bool := fun y => if y = "BadByte" then some true else if y = "NotValid" then some false else none
def sub_NotValid : Str → Option Bool := fun y => if y = "BadByte" then some false else if y = "NotValid" then some true else none
def mfile : Str := PySem.Challenge.pw_hewstream_k11_words.main.file
abbrev SupQ (P : Program) : Prop := ((P.main.file : Str) == mfile) = true ∧ (P.main.scope.names.lookup ("super" : Str)).isSome = false
abbrev si_BadByte : Stmt := clsAt (top 3) 0
def di_BadByte : He.DefD := ⟨("BadByte", some "__init__"), "__init__", "BadByte.__init__", defArgs si_BadByte, defBody si_BadByte, defScope si_BadByte, [], []⟩
theorem sd_BadByte : SupD di_BadByte "place" := ⟨"self", "place", _, _, _, _, _, _, _, _, _, _, _, rfl, fun _ _ _ _ _ _ _ _ _ => rfl, rfl, rfl, by decide, rfl, rfl, rfl, rfl, rfl, by decide +kernel, rfl, rfl, by decide, by decide, fun env => ⟨_, rfl⟩⟩
abbrev st_word_text : Stmt := top 14
def dd_word_text : He.DefD := ⟨("word_text", none), "word_text", "word_text", defArgs st_word_text, defBody st_word_text, defScope st_word_text, [], []⟩
def N_word_text : List Str := ["value", "part"]
def m_word_text (R_word_text : FnM) : SM := (zSeq (zIf (asB (mApp opIsN [.val true (mVar 0), .val true (mC .non)])) (zRet (mC (.str "o"))) zNext) (zSeq (zIf (asB (mApp (opIsi "str") [.val true (mVar 0)])) (zRet (mApp opAdd [.val true (mApp opAdd [.val true (mApp opAdd [.val true (mC (.str "t")), .val true (mApp opStr [.val true (mApp opLen [.val true (mVar 0)])])]), .val true (mC (.str ":"))]), .val true (mVar 0)])) zNext) (zSeq (zIf (asB (mApp (opIsi "int") [.val true (mVar 0)])) (zRet (mApp opAdd [.val true (mApp opAdd [.val true (mC (.str "n")), .val true (mApp opStr [.val true (mVar 0)])]), .val true (mC (.str ";"))])) zNext) (zRet (mApp opAdd [.val true (mApp opAdd [.val true (mC (.str "(")), .val true (mBm "str" opJoin (.val true (mC (.str ""))) [.val true (mComp (zIt (mVar 0)) (.name 1) [1] bYes (mCall R_word_text [.val true (mVar 1)]))])]), .val true (mC (.str ")"))])))))
def R_word_text : Nat → Nat → FnM
  | 0, _ => fun _ => .stuck
  | n + 1, _ => defM 2 [false] (m_word_text (R_word_text n 0))
abbrev F_word_text (n : Nat) : FnM := R_word_text n 0
abbrev st_write_word : Stmt := top 15
def dd_write_word : He.DefD := ⟨("write_word", none), "write_word", "write_word", defArgs st_write_word, defBody st_write_word, defScope st_write_word, [], []⟩
def N_write_word : List Str := ["value", "sign"]
def m_write_word : SM := (zRet (mComp (zIt (mCall (F_word_text 560) [.val true (mVar 0)])) (.name 1) [1] bYes (mApp opOrd [.val true (mVar 1)])))
def F_write_word : FnM := defM 2 [false] m_write_word
abbrev st__law_tape : Stmt := top 19
def dd__law_tape : He.DefD := ⟨("_law_tape", none), "_law_tape", "_law_tape", defArgs st__law_tape, defBody st__law_tape, defScope st__law_tape, [], []⟩
def N__law_tape : List Str := ["_law_script", "_law_tape_here", "_law_k", "_law_value_here", "_law_step"]
def m__law_tape : SM := (zSeq (zSet 1 (mLst [])) (zSeq (zForIn (zRng1 (mApp opLen [.val true (mVar 0)])) (.name 2) (zSeq (zSet 3 (mApp opAbs [.val true (mApp opInt [.val true (mApp opIx [.val true (mVar 0), .val true (mVar 2)])])])) (zIf (asB (mApp opGe [.val true (mVar 3), .val true (mApp opPow [.val true (mC (.int 10)), .val true (mC (.int 18))])])) (zForIn (zRng1 (mC (.int 60))) (.name 4) (zIf (asB (mApp opGt [.val true (mVar 3), .val true (mC (.int 0))])) (zSeq (zApp 1 (mApp opMod [.val true (mVar 3), .val true (mC (.int 1000))])) (zSet 3 (mApp opFdv [.val true (mVar 3), .val true (mC (.int 1000))]))) zNext)) (zForIn (zRng1 (mC (.int 4))) (.name 4) (zSeq (zSet 3 (mApp opMod [.val true (mApp opAdd [.val true (mApp opAdd [.val true (mApp opMul [.val true (mVar 3), .val true (mC (.int 48271))]), .val true (mApp opMul [.val true (mC (.int 69621)), .val true (mApp opAdd [.val true (mVar 2), .val true (mC (.int 1))])])]), .val true (mApp opMul [.val true (mC (.int 7)), .val true (mVar 4)])]), .val true (mC (.int 2147483647))])) (zSeq (zSet 3 (mApp opMod [.val true (mApp opMul [.val true (mVar 3), .val true (mC (.int 16807))]), .val true (mC (.int 2147483647))])) (zApp 1 (mApp opMod [.val true (mApp opFdv [.val true (mVar 3), .val true (mC (.int 1000))]), .val true (mC (.int 1000))])))))))) (zRet (mMv 1))))
def F__law_tape : FnM := defM 5 [false] m__law_tape
abbrev st__law_at : Stmt := top 20
def dd__law_at : He.DefD := ⟨("_law_at", none), "_law_at", "_law_at", defArgs st__law_at, defBody st__law_at, defScope st__law_at, [], []⟩
def N__law_at : List Str := ["_law_tape_here", "_law_k"]
def m__law_at : SM := (zSeq (zIf (asB (mApp opLt [.val true (mVar 1), .val true (mApp opLen [.val true (mVar 0)])])) (zRet (mApp opIx [.val true (mVar 0), .val true (mVar 1)])) zNext) (zRet (mC (.int 0))))
def F__law_at : FnM := defM 2 [false, false] m__law_at
abbrev st__law_pick : Stmt := top 21
def dd__law_pick : He.DefD := ⟨("_law_pick", none), "_law_pick", "_law_pick", defArgs st__law_pick, defBody st__law_pick, defScope st__law_pick, [], []⟩
def N__law_pick : List Str := ["_law_w", "_law_many"]
def m__law_pick : SM := (zSeq (zSetIx 0 (mFz (mApp opAdd [.val true (mApp opIx [.plc 0, .val true (mC (.int 1))]), .val true (mC (.int 1))])) (mC (.int 1))) (zRet (mApp opMod [.val true (mApp opAdd [.val true (mApp opAdd [.val true (mApp opMul [.val true (mCall F__law_at [.val true (mApp opIx [.plc 0, .val true (mC (.int 0))]), .val true (mApp opMod [.val true (mApp opIx [.plc 0, .val true (mC (.int 1))]), .val true (mC (.int 200))])]), .val true (mC (.int 31))]), .val true (mApp opMul [.val true (mApp opIx [.plc 0, .val true (mC (.int 1))]), .val true (mApp opIx [.plc 0, .val true (mC (.int 1))])])]), .val true (mCall F__law_at [.val true (mApp opIx [.plc 0, .val true (mC (.int 0))]), .val true (mC (.int 1))])]), .val true (mVar 1)])))
def F__law_pick : FnM := defM 2 [true, false] m__law_pick
abbrev st__law_value : Stmt := top 22
def dd__law_value : He.DefD := ⟨("_law_value", none), "_law_value", "_law_value", defArgs st__law_value, defBody st__law_value, defScope st__law_value, [], []⟩
def N__law_value : List Str := ["_law_w", "_law_level", "_law_kind", "_law_k"]
def m__law_value (R__law_value : FnM) : SM := (zSeq (zSet 2 (mFz (mCall F__law_pick [.plc 0, .val true (mC (.int 5))]))) (zSeq (zIf (asB (mApp opEq [.val true (mVar 2), .val true (mC (.int 0))])) (zRet (mC .non)) zNext) (zSeq (zIf (asB (mApp opEq [.val true (mVar 2), .val true (mC (.int 1))])) (zRet (mApp opIx [.val false (mLst [.val true (mC (.int 0)), .val true (mC (.int 7)), .val true (mC (.int 10)), .val true (mC (.int 123456789)), .val false (mCall F__law_pick [.plc 0, .val true (mC (.int 100))])]), .val false (mCall F__law_pick [.plc 0, .val true (mC (.int 5))])])) zNext) (zSeq (zIf (bOr (asB (mApp opEq [.val true (mVar 2), .val true (mC (.int 2))])) (asB (mApp opGt [.val true (mVar 1), .val true (mC (.int 3))]))) (zRet (mBm "str" opJoin (.val true (mC (.str ""))) [.val false (mComp (zRng1 (mCall F__law_pick [.plc 0, .val true (mC (.int 13))])) (.name 3) [3] bYes (mApp opIx [.val true (mC (.str "a1;:()to<\n \"")), .val false (mCall F__law_pick [.plc 0, .val true (mC (.int 12))])]))])) zNext) (zRet (mApp opTuple [.val false (mComp (zRng1 (mCall F__law_pick [.plc 0, .val true (mC (.int 4))])) (.name 3) [3] bYes (mCall R__law_value [.plc 0, .val true (mApp opAdd [.val true (mVar 1), .val true (mC (.int 1))])]))]))))))
def R__law_value : Nat → Nat → FnM
  | 0, _ => fun _ => .stuck
  | n + 1, _ => defM 4 [true, false] (m__law_value (R__law_value n 0))
abbrev F__law_value (n : Nat) : FnM := R__law_value n 0
abbrev st__law_text : Stmt := top 23
def dd__law_text : He.DefD := ⟨("_law_text", none), "_law_text", "_law_text", defArgs st__law_text, defBody st__law_text, defScope st__law_text, [], []⟩
def N__law_text : List Str := ["_law_value_here", "_law_part"]
def m__law_text (R__law_text : FnM) : SM := (zSeq (zIf (asB (mApp opIsN [.val true (mVar 0), .val true (mC .non)])) (zRet (mC (.str "o"))) zNext) (zSeq (zIf (asB (mApp (opIsi "int") [.val true (mVar 0)])) (zRet (mApp opAdd [.val true (mApp opAdd [.val true (mC (.str "n")), .val true (mApp opStr [.val true (mVar 0)])]), .val true (mC (.str ";"))])) zNext) (zSeq (zIf (asB (mApp (opIsi "str") [.val true (mVar 0)])) (zRet (mApp opAdd [.val true (mApp opAdd [.val true (mApp opAdd [.val true (mC (.str "t")), .val true (mApp opStr [.val true (mApp opLen [.val true (mVar 0)])])]), .val true (mC (.str ":"))]), .val true (mVar 0)])) zNext) (zRet (mApp opAdd [.val true (mApp opAdd [.val true (mC (.str "(")), .val true (mBm "str" opJoin (.val true (mC (.str ""))) [.val true (mComp (zIt (mVar 0)) (.name 1) [1] bYes (mCall R__law_text [.val true (mVar 1)]))])]), .val true (mC (.str ")"))])))))
def R__law_text : Nat → Nat → FnM
  | 0, _ => fun _ => .stuck
  | n + 1, _ => defM 2 [false] (m__law_text (R__law_text n 0))
abbrev F__law_text (n : Nat) : FnM := R__law_text n 0
abbrev st__law_fault : Stmt := top 24
def dd__law_fault : He.DefD := ⟨("_law_fault", none), "_law_fault", "_law_fault", defArgs st__law_fault, defBody st__law_fault, defScope st__law_fault, [], []⟩
def N__law_fault : List Str := ["_law_data", "_law_depth", "_law_state", "_law_digits", "_law_left", "_law_place", "_law_byte"]
def m__law_fault : SM := (zSeq (zSet 1 (mC (.int 0))) (zSeq (zSet 2 (mC (.str "value"))) (zSeq (zSet 3 (mC (.str ""))) (zSeq (zSet 4 (mC (.int 0))) (zSeq (zForIn (zRng1 (mApp opLen [.val true (mVar 0)])) (.name 5) (zSeq (zSet 6 (mApp opIx [.val true (mVar 0), .val true (mVar 5)])) (zSeq (zIf (bOr (bAnd (asB (mApp (opIn true) [.val true (mVar 6), .val true (mTup [.val true (mC (.int 9)), .val true (mC (.int 10))])])) (bOr (asB (mApp opLt [.val true (mVar 6), .val true (mC (.int 32))])) (bOr (asB (mApp opGt [.val true (mVar 6), .val true (mC (.int 126))])) (asB (mApp opEq [.val true (mVar 6), .val true (mC (.int 37))]))))) (asB (mApp opEq [.val true (mVar 2), .val true (mC (.str "over"))]))) (zRet (mVar 5)) zNext) (zIf (asB (mApp opEq [.val true (mVar 2), .val true (mC (.str "text"))])) (zSeq (zSet 4 (mApp opSub [.val true (mVar 4), .val true (mC (.int 1))])) (zIf (asB (mApp opEq [.val true (mVar 4), .val true (mC (.int 0))])) (zSet 2 (mApp opIx [.val true (mLst [.val true (mC (.str "value")), .val true (mC (.str "over"))]), .val true (mApp opInt [.val true (mApp opEq [.val true (mVar 1), .val true (mC (.int 0))])])])) zNext)) (zIf (asB (mApp opEq [.val true (mVar 2), .val true (mC (.str "value"))])) (zIf (asB (mApp opEq [.val true (mVar 6), .val true (mC (.int 40))])) (zSet 1 (mFz (mApp opAdd [.val true (mVar 1), .val true (mC (.int 1))]))) (zIf (bAnd (asB (mApp opEq [.val true (mVar 6), .val true (mC (.int 41))])) (asB (mApp opGt [.val true (mVar 1), .val true (mC (.int 0))]))) (zSeq (zSet 1 (mApp opSub [.val true (mVar 1), .val true (mC (.int 1))])) (zSet 2 (mApp opIx [.val true (mLst [.val true (mC (.str "value")), .val true (mC (.str "over"))]), .val true (mApp opInt [.val true (mApp opEq [.val true (mVar 1), .val true (mC (.int 0))])])]))) (zIf (asB (mApp opEq [.val true (mVar 6), .val true (mC (.int 111))])) (zSet 2 (mApp opIx [.val true (mLst [.val true (mC (.str "value")), .val true (mC (.str "over"))]), .val true (mApp opInt [.val true (mApp opEq [.val true (mVar 1), .val true (mC (.int 0))])])])) (zIf (asB (mApp (opIn false) [.val true (mVar 6), .val true (mTup [.val true (mC (.int 110)), .val true (mC (.int 116))])])) (zSeq (zSet 2 (mApp opIx [.val true (mLst [.val true (mC (.str "n")), .val true (mC (.str "t"))]), .val true (mApp opInt [.val true (mApp opEq [.val true (mVar 6), .val true (mC (.int 116))])])])) (zSet 3 (mC (.str "")))) (zRet (mVar 5)))))) (zIf (bAnd (asB (mApp opEq [.val true (mVar 6), .val true (mApp opIx [.val true (mLst [.val true (mC (.int 59)), .val true (mC (.int 58))]), .val true (mApp opInt [.val true (mApp opEq [.val true (mVar 2), .val true (mC (.str "t"))])])])])) (asB (mApp opNe [.val true (mVar 3), .val true (mC (.str ""))]))) (zSeq (zSet 4 (mC (.int 0))) (zSeq (zIf (asB (mApp opEq [.val true (mVar 2), .val true (mC (.str "t"))])) (zSet 4 (mApp opInt [.val true (mVar 3)])) zNext) (zSeq (zSet 2 (mApp opIx [.val true (mLst [.val true (mC (.str "value")), .val true (mC (.str "over"))]), .val true (mApp opInt [.val true (mApp opEq [.val true (mVar 1), .val true (mC (.int 0))])])])) (zIf (asB (mApp opGt [.val true (mVar 4), .val true (mC (.int 0))])) (zSet 2 (mC (.str "text"))) zNext)))) (zIf (bAnd (mChain gLe gLe (mC (.int 48)) (mVar 6) (mC (.int 57))) (bAnd (asB (mApp opNe [.val true (mVar 3), .val true (mC (.str "0"))])) (asB (mApp opLt [.val true (mApp opLen [.val true (mVar 3)]), .val true (mC (.int 9))])))) (zSet 3 (mFz (mApp opAdd [.val true (mVar 3), .val true (mApp opIx [.val true (mC (.str "0123456789")), .val true (mApp opSub [.val true (mVar 6), .val true (mC (.int 48))])])]))) (zRet (mVar 5))))))))) (zSeq (zIf (asB (mApp opNe [.val true (mVar 2), .val true (mC (.str "over"))])) (zRet (mApp opLen [.val true (mVar 0)])) zNext) (zRet (mApp opNeg [.val true (mC (.int 1))]))))))))
def F__law_fault : FnM := defM 7 [false] m__law_fault
abbrev st_is_integer : Stmt := top 9
def dd_is_integer : He.DefD := ⟨("is_integer", none), "is_integer", "is_integer", defArgs st_is_integer, defBody st_is_integer, defScope st_is_integer, [], []⟩
def N_is_integer : List Str := ["value"]
def m_is_integer : SM := (zRet (mB (bAnd (asB (mApp (opIsi "int") [.val true (mVar 0)])) (bNot (asB (mApp (opIsi "bool") [.val true (mVar 0)]))))))
def F_is_integer : FnM := defM 1 [false] m_is_integer
abbrev st_WordReader___init__ : Stmt := clsAt (top 16) 0
def dd_WordReader___init__ : He.DefD := ⟨("WordReader", some "__init__"), "__init__", "WordReader.__init__", defArgs st_WordReader___init__, defBody st_WordReader___init__, defScope st_WordReader___init__, [], []⟩
def N_WordReader___init__ : List Str := ["self"]
def m_WordReader___init__ : SM := (zSeq (zSetF 0 [] "WordReader" "place" (mC (.int 0))) (zSeq (zSetF 0 [] "WordReader" "state" (mC (.str "value"))) (zSeq (zSetF 0 [] "WordReader" "rows" (mLst [])) (zSeq (zSetF 0 [] "WordReader" "digits" (mC (.str ""))) (zSeq (zSetF 0 [] "WordReader" "text" (mC (.str ""))) (zSetF 0 [] "WordReader" "value" (mC .non)))))))
def F_WordReader___init__ : FnM := defM 1 [true] m_WordReader___init__
abbrev st_WordReader_fail : Stmt := clsAt (top 16) 1
def dd_WordReader_fail : He.DefD := ⟨("WordReader", some "fail"), "fail", "WordReader.fail", defArgs st_WordReader_fail, defBody st_WordReader_fail, defScope st_WordReader_fail, [], []⟩
def N_WordReader_fail : List Str := ["self"]
def m_WordReader_fail : SM := (zRaiseA "BadByte" "place" (mGet 0 [.fld "WordReader" "place"]))
def F_WordReader_fail : FnM := defM 1 [true] m_WordReader_fail
abbrev st_sign_of : Stmt := top 10
def dd_sign_of : He.DefD := ⟨("sign_of", none), "sign_of", "sign_of", defArgs st_sign_of, defBody st_sign_of, defScope st_sign_of, [], []⟩
def N_sign_of : List Str := ["byte"]
def m_sign_of : SM := (zSeq (zIf (asB (mApp opEq [.val true (mVar 0), .val true (mC (.int 9))])) (zRet (mC (.str "\t"))) zNext) (zSeq (zIf (asB (mApp opEq [.val true (mVar 0), .val true (mC (.int 10))])) (zRet (mC (.str "\n"))) zNext) (zSeq (zIf (bAnd (mChain gLe gLe (mC c_FIRST_SIGN) (mVar 0) (mC c_LAST_SIGN)) (asB (mApp opNe [.val true (mVar 0), .val true (mC c_NO_SIGN)]))) (zRet (mApp opIx [.val true (mC c_SIGNS), .val true (mApp opSub [.val true (mVar 0), .val true (mC c_FIRST_SIGN)])])) zNext) (zRet (mC .non)))))
def F_sign_of : FnM := defM 1 [false] m_sign_of
abbrev st_WordReader_put : Stmt := clsAt (top 16) 6
def dd_WordReader_put : He.DefD := ⟨("WordReader", some "put"), "put", "WordReader.put", defArgs st_WordReader_put, defBody st_WordReader_put, defScope st_WordReader_put, [], []⟩
def N_WordReader_put : List Str := ["self", "value"]
def m_WordReader_put : SM := (zSeq (zSetF 0 [] "WordReader" "state" (mC (.str "value"))) (zIf (bTruL 0 [.fld "WordReader" "rows"]) (zAppP 0 [.fld "WordReader" "rows", .ix (-1)] (mVar 1)) (zSeq (zSetF 0 [] "WordReader" "value" (mVar 1)) (zSetF 0 [] "WordReader" "state" (mC (.str "over"))))))
def F_WordReader_put : FnM := defM 2 [true, false] m_WordReader_put
abbrev st_WordReader_take_value : Stmt := clsAt (top 16) 3
def dd_WordReader_take_value : He.DefD := ⟨("WordReader", some "take_value"), "take_value", "WordReader.take_value", defArgs st_WordReader_take_value, defBody st_WordReader_take_value, defScope st_WordReader_take_value, [], []⟩
def N_WordReader_take_value : List Str := ["self", "sign"]
def m_WordReader_take_value : SM := (zIf (asB (mApp opEq [.val true (mVar 1), .val true (mC (.str "o"))])) (zDrop (mMeth "WordReader" "put" F_WordReader_put (.plc 0) [.val true (mC .non)])) (zIf (asB (mApp opEq [.val true (mVar 1), .val true (mC (.str "("))])) (zAppP 0 [.fld "WordReader" "rows"] (mLst [])) (zIf (bAnd (asB (mApp opEq [.val true (mVar 1), .val true (mC (.str ")"))])) (bTruL 0 [.fld "WordReader" "rows"])) (zDrop (mMeth "WordReader" "put" F_WordReader_put (.plc 0) [.val false (mApp opTuple [.val false (mPop 0 [.fld "WordReader" "rows"])])])) (zIf (bOr (asB (mApp opEq [.val true (mVar 1), .val true (mC (.str "n"))])) (asB (mApp opEq [.val true (mVar 1), .val true (mC (.str "t"))]))) (zSeq (zSetF 0 [] "WordReader" "state" (mVar 1)) (zSetF 0 [] "WordReader" "digits" (mC (.str "")))) (zDrop (mMeth "WordReader" "fail" F_WordReader_fail (.plc 0) []))))))
def F_WordReader_take_value : FnM := defM 2 [true, false] m_WordReader_take_value
abbrev st_WordReader_end_digits : Stmt := clsAt (top 16) 5
def dd_WordReader_end_digits : He.DefD := ⟨("WordReader", some "end_digits"), "end_digits", "WordReader.end_digits", defArgs st_WordReader_end_digits, defBody st_WordReader_end_digits, defScope st_WordReader_end_digits, [], []⟩
def N_WordReader_end_digits : List Str := ["self"]
def m_WordReader_end_digits : SM := (zIf (asB (mApp opEq [.val true (mGet 0 [.fld "WordReader" "state"]), .val true (mC (.str "n"))])) (zDrop (mMeth "WordReader" "put" F_WordReader_put (.plc 0) [.val true (mApp opInt [.val true (mGet 0 [.fld "WordReader" "digits"])])])) (zIf (asB (mApp opEq [.val true (mGet 0 [.fld "WordReader" "digits"]), .val true (mC (.str "0"))])) (zDrop (mMeth "WordReader" "put" F_WordReader_put (.plc 0) [.val true (mC (.str ""))])) (zSeq (zSetF 0 [] "WordReader" "text" (mC (.str ""))) (zSetF 0 [] "WordReader" "state" (mC (.str "text"))))))
def F_WordReader_end_digits : FnM := defM 1 [true] m_WordReader_end_digits
abbrev st_WordReader_take_digit : Stmt := clsAt (top 16) 4
def dd_WordReader_take_digit : He.DefD := ⟨("WordReader", some "take_digit"), "take_digit", "WordReader.take_digit", defArgs st_WordReader_take_digit, defBody st_WordReader_take_digit, defScope st_WordReader_take_digit, [], []⟩
def N_WordReader_take_digit : List Str := ["self", "sign", "last"]
def m_WordReader_take_digit : SM := (zSeq (zSet 2 (mC (.str ";"))) (zSeq (zIf (asB (mApp opEq [.val true (mGet 0 [.fld "WordReader" "state"]), .val true (mC (.str "t"))])) (zSet 2 (mC (.str ":"))) zNext) (zIf (bAnd (asB (mApp opEq [.val true (mVar 1), .val true (mVar 2)])) (asB (mApp opNe [.val true (mGet 0 [.fld "WordReader" "digits"]), .val true (mC (.str ""))]))) (zDrop (mMeth "WordReader" "end_digits" F_WordReader_end_digits (.plc 0) [])) (zIf (bAnd (asB (mApp (opIn false) [.val true (mVar 1), .val true (mC c_DIGITS)])) (bAnd (asB (mApp opNe [.val true (mGet 0 [.fld "WordReader" "digits"]), .val true (mC (.str "0"))])) (asB (mApp opLt [.val true (mApp opLen [.val true (mGet 0 [.fld "WordReader" "digits"])]), .val true (mC c_MOST_DIGITS)])))) (zSetF 0 [] "WordReader" "digits" (mFz (mApp opAdd [.val true (mGet 0 [.fld "WordReader" "digits"]), .val true (mVar 1)]))) (zDrop (mMeth "WordReader" "fail" F_WordReader_fail (.plc 0) []))))))
def F_WordReader_take_digit : FnM := defM 3 [true, false] m_WordReader_take_digit
abbrev st_WordReader_take : Stmt := clsAt (top 16) 2
def dd_WordReader_take : He.DefD := ⟨("WordReader", some "take"), "take", "WordReader.take", defArgs st_WordReader_take, defBody st_WordReader_take, defScope st_WordReader_take, [], []⟩
def N_WordReader_take : List Str := ["self", "byte", "sign"]
def m_WordReader_take : SM := (zSeq (zSet 2 (mFz (mCall F_sign_of [.val true (mVar 1)]))) (zSeq (zIf (bOr (asB (mApp opIsN [.val true (mVar 2), .val true (mC .non)])) (asB (mApp opEq [.val true (mGet 0 [.fld "WordReader" "state"]), .val true (mC (.str "over"))]))) (zDrop (mMeth "WordReader" "fail" F_WordReader_fail (.plc 0) [])) zNext) (zSeq (zIf (asB (mApp opEq [.val true (mGet 0 [.fld "WordReader" "state"]), .val true (mC (.str "value"))])) (zDrop (mMeth "WordReader" "take_value" F_WordReader_take_value (.plc 0) [.val true (mVar 2)])) (zIf (asB (mApp opEq [.val true (mGet 0 [.fld "WordReader" "state"]), .val true (mC (.str "text"))])) (zSeq (zSetF 0 [] "WordReader" "text" (mFz (mApp opAdd [.val true (mGet 0 [.fld "WordReader" "text"]), .val true (mVar 2)]))) (zIf (asB (mApp opEq [.val true (mApp opLen [.val true (mGet 0 [.fld "WordReader" "text"])]), .val true (mApp opInt [.val true (mGet 0 [.fld "WordReader" "digits"])])])) (zDrop (mMeth "WordReader" "put" F_WordReader_put (.plc 0) [.val true (mGet 0 [.fld "WordReader" "text"])])) zNext)) (zDrop (mMeth "WordReader" "take_digit" F_WordReader_take_digit (.plc 0) [.val true (mVar 2)])))) (zAugF 0 [] "WordReader" "place" fAdd (mC (.int 1))))))
def F_WordReader_take : FnM := defM 3 [true, false] m_WordReader_take
abbrev st_read_word : Stmt := top 17
def dd_read_word : He.DefD := ⟨("read_word", none), "read_word", "read_word", defArgs st_read_word, defBody st_read_word, defScope st_read_word, [], []⟩
def N_read_word : List Str := ["data", "byte", "reader"]
def m_read_word : SM := (zSeq (zIf (bOr (bNot (asB (mApp (opIsi "list") [.val true (mVar 0)]))) (bNot (asB (mApp opAll [.val true (mComp (zIt (mVar 0)) (.name 1) [1] bYes (mCall F_is_integer [.val true (mVar 1)]))])))) (zRaise0 "NotValid") zNext) (zSeq (zSet 2 (mMake "WordReader" F_WordReader___init__ [])) (zSeq (zForIn (zIt (mVar 0)) (.name 1) (zDrop (mMeth "WordReader" "take" F_WordReader_take (.plc 2) [.val true (mVar 1)]))) (zSeq (zIf (asB (mApp opNe [.val true (mGet 2 [.fld "WordReader" "state"]), .val true (mC (.str "over"))])) (zDrop (mMeth "WordReader" "fail" F_WordReader_fail (.plc 2) [])) zNext) (zRet (mGet 2 [.fld "WordReader" "value"]))))))
def F_read_word : FnM := defM 3 [false] m_read_word
abbrev st__law_told : Stmt := top 25
def dd__law_told : He.DefD := ⟨("_law_told", none), "_law_told", "_law_told", defArgs st__law_told, defBody st__law_told, defScope st__law_told, [], []⟩
def N__law_told : List Str := ["_law_data", "e"]
def m__law_told : SM := (zTryAs sub_StreamError 1 (zRet (mTup [.val true (mC (.str "value")), .val true (mCall F_read_word [.val true (mVar 0)])])) (fun z => (zSeq (zIf (asB (mIsA 1 (sub_BadByte z.cls))) (zRet (mTup [.val true (mC (.str "byte")), .val true (mXf 1 "place" (decide (z.cls = "BadByte")))])) zNext) (zRet (mTup [.val true (mC (.str "refused")), .val true (mIsA 1 (sub_NotValid z.cls))])))))
def F__law_told : FnM := defM 2 [false] m__law_told
abbrev st_law : Stmt := top 26
def dd_law : He.DefD := ⟨("law", none), "law", "law", defArgs st_law, defBody st_law, defScope st_law, [], []⟩
def N_law : List Str := ["_law_script", "_law_w", "_law_value_here", "_law_data", "_law_sign", "_law_k", "_law_at_here", "_law_byte", "_law_bent", "_law_fault_here", "_law_told_here", "_law_wrong"]
def m_law : SM := (zSeq (zSet 1 (mLst [.val true (mCall F__law_tape [.val true (mVar 0)]), .val true (mC (.int 0))])) (zSeq (zSet 2 (mFz (mCall (F__law_value 40) [.plc 1, .val true (mC (.int 0))]))) (zSeq (zSet 3 (mFz (mComp (zIt (mCall (F__law_text 40) [.val true (mVar 2)])) (.name 4) [4] bYes (mApp opOrd [.val true (mVar 4)])))) (zSeq (zIf (bOr (asB (mApp opNe [.val true (mCall F_write_word [.val true (mVar 2)]), .val true (mVar 3)])) (bOr (asB (mApp opNe [.val true (mCall F__law_told [.val true (mVar 3)]), .val true (mTup [.val true (mC (.str "value")), .val true (mVar 2)])])) (asB (mApp opNe [.val true (mCall F__law_fault [.val true (mVar 3)]), .val true (mApp opNeg [.val true (mC (.int 1))])])))) (zRet (mC (.bl false))) zNext) (zSeq (zForIn (zRng1 (mC (.int 8))) (.name 5) (zSeq (zSet 6 (mFz (mCall F__law_pick [.plc 1, .val true (mApp opAdd [.val true (mApp opLen [.val true (mVar 3)]), .val true (mC (.int 1))])]))) (zSeq (zSet 7 (mApp opIx [.val true (mLst [.val true (mC (.int 40)), .val true (mC (.int 41)), .val true (mC (.int 48)), .val true (mC (.int 49)), .val true (mC (.int 57)), .val true (mC (.int 58)), .val true (mC (.int 59)), .val true (mC (.int 110)), .val true (mC (.int 111)), .val true (mC (.int 116)), .val true (mC (.int 97)), .val true (mC (.int 37)), .val true (mC (.int 200)), .val true (mApp opNeg [.val true (mC (.int 1))]), .val true (mC (.int 10))]), .val false (mCall F__law_pick [.plc 1, .val true (mC (.int 15))])])) (zSeq (zSet 8 (mApp opIx [.val true (mLst [.val true (mApp (opSl false true) [.val true (mVar 3), .val true (mVar 6)]), .val true (mApp opAdd [.val true (mApp opAdd [.val true (mApp (opSl false true) [.val true (mVar 3), .val true (mVar 6)]), .val true (mLst [.val true (mVar 7)])]), .val true (mApp (opSl true false) [.val true (mVar 3), .val true (mVar 6)])]), .val true (mApp opAdd [.val true (mApp opAdd [.val true (mApp (opSl false true) [.val true (mVar 3), .val true (mVar 6)]), .val true (mLst [.val true (mVar 7)])]), .val true (mApp (opSl true false) [.val true (mVar 3), .val true (mApp opAdd [.val true (mVar 6), .val true (mC (.int 1))])])])]), .val false (mCall F__law_pick [.plc 1, .val true (mC (.int 3))])])) (zSeq (zSet 9 (mFz (mCall F__law_fault [.val true (mVar 8)]))) (zSeq (zSet 10 (mFz (mCall F__law_told [.val true (mVar 8)]))) (zIf (bOr (bAnd (asB (mApp opGe [.val true (mVar 9), .val true (mC (.int 0))])) (asB (mApp opNe [.val true (mVar 10), .val true (mTup [.val true (mC (.str "byte")), .val true (mVar 9)])]))) (bAnd (asB (mApp opLt [.val true (mVar 9), .val true (mC (.int 0))])) (bOr (asB (mApp opNe [.val true (mApp opIx [.val true (mVar 10), .val true (mC (.int 0))]), .val true (mC (.str "value"))])) (asB (mApp opNe [.val true (mCall F_write_word [.val true (mApp opIx [.val true (mVar 10), .val true (mC (.int 1))])]), .val true (mVar 8)]))))) (zRet (mC (.bl false))) zNext))))))) (zSeq (zForIn (zIt (mTup [.val true (mC .non), .val true (mC (.str "o")), .val true (mTup [.val true (mC (.int 111))]), .val true (mLst [.val true (mC .non)]), .val true (mLst [.val true (mC (.bl true))])])) (.name 11) (zIf (asB (mApp opNe [.val true (mCall F__law_told [.val true (mVar 11)]), .val true (mTup [.val true (mC (.str "refused")), .val true (mC (.bl true))])])) (zRet (mC (.bl false))) zNext)) (zRet (mC (.bl true)))))))))
def F_law : FnM := defM 12 [false] m_law
def fn : List He.DefD := [dd_word_text, dd_write_word, dd__law_tape, dd__law_at, dd__law_pick, dd__law_value, dd__law_text, dd__law_fault, dd_is_integer, dd_WordReader___init__, dd_WordReader_fail, dd_sign_of, dd_WordReader_put, dd_WordReader_take_value, dd_WordReader_end_digits, dd_WordReader_take_digit, dd_WordReader_take, dd_read_word, dd__law_told, dd_law]
def fa : List He.Fa := [.glo "word_text", .glo "write_word", .glo "_law_tape", .glo "_law_at", .glo "_law_pick", .glo "_law_value", .glo "_law_text", .glo "_law_fault", .glo "is_integer", .meth "WordReader" "__init__", .meth "WordReader" "fail", .glo "sign_of", .meth "WordReader" "put", .meth "WordReader" "take_value", .meth "WordReader" "end_digits", .meth "WordReader" "take_digit", .meth "WordReader" "take", .glo "read_word", .glo "_law_told", .glo "law", .free "isinstance", .free "str", .free "len", .free "int", .free "ord", .free "abs", .free "range", .free "tuple", .free "bool", .glo "WordReader", .cls "WordReader", .noat "WordReader" "place", .noat "WordReader" "state", .noat "WordReader" "rows", .noat "WordReader" "digits", .noat "WordReader" "text", .noat "WordReader" "value", .free "list", .free "all", .mkr "WordReader"]
def cs : List (Str × D) := [("FIRST_SIGN", c_FIRST_SIGN), ("LAST_SIGN", c_LAST_SIGN), ("NO_SIGN", c_NO_SIGN), ("SIGNS", c_SIGNS), ("DIGITS", c_DIGITS), ("MOST_DIGITS", c_MOST_DIGITS)]
def xf : List XF := [.exA "BadByte" "place" di_BadByte mfile, .exc "NotValid", .exc "StreamError", .rel "BadByte" "StreamError" true, .rel "BadByte" "BadByte" true, .rel "BadByte" "NotValid" false, .rel "NotValid" "StreamError" true, .rel "NotValid" "BadByte" false, .rel "NotValid" "NotValid" true]
theorem tab_StreamError {G : Gx} (h : Hd fa fn cs xf G) (y : Str) (b : Bool) (C : Addr) (e : sub_StreamError y = some b) (m : G.mg y = some (.ref C)) : (PySem.W.exmOne G.K (.ref C) (.ref (He.ga G.K "StreamError")) = some b ∧ PySem.W.kitOne G.K (.ref C) (.ref (He.ga G.K "StreamError")) = some b) ∧ ExcC G.K C := by
  unfold sub_StreamError at e
  by_cases h0 : y = "BadByte"
  · subst h0; rw [if_pos rfl] at e; cases e; rw [(h.exa0 0).m] at m; cases m; exact ⟨h.rel 3, (h.exa0 0).c⟩
  rw [if_neg h0] at e
  by_cases h1 : y = "NotValid"
  · subst h1; rw [if_pos rfl] at e; cases e; rw [(h.exn 1).m] at m; cases m; exact ⟨h.rel 6, (h.exn 1).c⟩
  rw [if_neg h1] at e
  cases e
theorem tab_BadByte {G : Gx} (h : Hd fa fn cs xf G) (y : Str) (b : Bool) (C : Addr) (e : sub_BadByte y = some b) (m : G.mg y = some (.ref C)) : (PySem.W.exmOne G.K (.ref C) (.ref (He.ga G.K "BadByte")) = some b ∧ PySem.W.kitOne G.K (.ref C) (.ref (He.ga G.K "BadByte")) = some b) ∧ ExcC G.K C := by
  unfold sub_BadByte at e
  by_cases h0 : y = "BadByte"
  · subst h0; rw [if_pos rfl] at e; cases e; rw [(h.exa0 0).m] at m; cases m; exact ⟨h.rel 4, (h.exa0 0).c⟩
  rw [if_neg h0] at e
  by_cases h1 : y = "NotValid"
  · subst h1; rw [if_pos rfl] at e; cases e; rw [(h.exn 1).m] at m; cases m; exact ⟨h.rel 7, (h.exn 1).c⟩
  rw [if_neg h1] at e
  cases e
theorem tab_NotValid {G : Gx} (h : Hd fa fn cs xf G) (y : Str) (b : Bool) (C : Addr) (e : sub_NotValid y = some b) (m : G.mg y = some (.ref C)) : (PySem.W.exmOne G.K (.ref C) (.ref (He.ga G.K "NotValid")) = some b ∧ PySem.W.kitOne G.K (.ref C) (.ref (He.ga G.K "NotValid")) = some b) ∧ ExcC G.K C := by
  unfold sub_NotValid at e
  by_cases h0 : y = "BadByte"
  · subst h0; rw [if_pos rfl] at e; cases e; rw [(h.exa0 0).m] at m; cases m; exact ⟨h.rel 5, (h.exa0 0).c⟩
  rw [if_neg h0] at e
  by_cases h1 : y = "NotValid"
  · subst h1; rw [if_pos rfl] at e; cases e; rw [(h.exn 1).m] at m; cases m; exact ⟨h.rel 8, (h.exn 1).c⟩
  rw [if_neg h1] at e
  cases e
theorem st_ok_word_text {P : Program} {w : World} {G : Gx} {base : Heap} {n : Nat} (h : Hd fa fn cs xf G) (hP : SupQ P) {R_word_text : FnM} (c_lword_text : CalD P w G base n "word_text" ["value"] R_word_text) : CalD P w G base (n + 1) "word_text" ["value"] (defM 2 [false] (m_word_text R_word_text)) := by
  obtain ⟨fd, Fn⟩ := h.says.def_ 0 (d := dd_word_text) rfl

  refine cald_ok (n := n) (N := N_word_text) Fn (h.glo 0) ⟨rfl, rfl, rfl, by decide +kernel, rfl, by decide +kernel, by decide +kernel⟩ rfl (fun _ _ _ _ _ _ us hl => match us, hl with | [_], _ => rfl) fun cdv A outer s H E hr => ?_
  have K := ok_cx (P := P) (w := w) (G := G) (base := base) (N := N_word_text) (cdv := cdv) (A := A) (outer := outer) (s := s) (H := H) (E := E) hr.room (by decide +kernel)
  exact (zs_cons (z_if (t_isN K (o_v (e_var 0)) (o_v e_non)) (zs_one (z_ret e_str)) zs_nil)
    (zs_cons (z_if (sb_val (e_isi "str" K (h.free 20) (h.free 21) (o_v (e_var 0)))) (zs_one (z_ret (e_add K (o_v (e_add K (o_v (e_add K (o_v e_str) (o_v (e_ti call_str_int rn_str K (h.free 21) (pa_cs (o_v (e_bi call_lenA (rn_len K.gK) K (h.free 22) (pa_cs (o_v (e_var 0)) pa_nl))) pa_nl))))) (o_v e_str))) (o_v (e_var 0))))) zs_nil)
    (zs_cons (z_if (sb_val (e_isi "int" K (h.free 20) (h.free 23) (o_v (e_var 0)))) (zs_one (z_ret (e_add K (o_v (e_add K (o_v e_str) (o_v (e_ti call_str_int rn_str K (h.free 21) (pa_cs (o_v (e_var 0)) pa_nl))))) (o_v e_str)))) zs_nil)
    (zs_one (z_ret (e_add K (o_v (e_add K (o_v e_str) (o_v (e_bm PySem.F.plainAttrs_str PySem.F.slot_str_join PySem.F.type_str_join mt_join (rn_join K.gK) K (o_v e_str) (pa_cs (o_v (sx_comp K.gK K.c K.n (e_var 0) (blk_of (own := [("part", 1)]) (by rfl)) (by decide) (fun s H C cl fp => (g_n 1 (K.blk s H _ cl C fp))) (fun s H C cl fp => pts_yes) (fun s H C cl fp => (e_calD (K.blk s H _ cl C fp) hr c_lword_text (pa_cs (o_v (e_var 1)) pa_nl))))) pa_nl))))) (o_v e_str)))))))
theorem all_ok_word_text {P : Program} {w : World} {G : Gx} {base : Heap} (h : Hd fa fn cs xf G) (hP : SupQ P) : ∀ n : Nat, CalD P w G base n "word_text" ["value"] (F_word_text n)
  | 0 => by obtain ⟨fd, Fn⟩ := h.says.def_ 0 (d := dd_word_text) rfl; exact cald_zero Fn (h.glo 0) (fun _ _ _ _ _ _ us hl => match us, hl with | [_], _ => rfl)
  | n + 1 => st_ok_word_text (n := n) h hP (all_ok_word_text h hP n)
theorem ok_word_text {P : Program} {w : World} {G : Gx} {base : Heap} (h : Hd fa fn cs xf G) (hP : SupQ P) : Cal P w G base 200 "word_text" ["value"] (F_word_text 560) := (all_ok_word_text h hP 560).cal
theorem ok_write_word {P : Program} {w : World} {G : Gx} {base : Heap} (h : Hd fa fn cs xf G) (hP : SupQ P) : Cal P w G base 201 "write_word" ["value"] F_write_word := by
  obtain ⟨fd, Fn⟩ := h.says.def_ 1 (d := dd_write_word) rfl
  have c_lword_text := ok_word_text (P := P) (w := w) (base := base) h hP
  refine cal_ok (k := 200) (N := N_write_word) Fn (h.glo 1) ⟨rfl, rfl, rfl, by decide +kernel, rfl, by decide +kernel, by decide +kernel⟩ rfl (fun _ _ _ _ _ _ us hl => match us, hl with | [_], _ => rfl) fun cdv A outer s H E hr => ?_
  have K := ok_cx (P := P) (w := w) (G := G) (base := base) (N := N_write_word) (cdv := cdv) (A := A) (outer := outer) (s := s) (H := H) (E := E) hr (by decide +kernel)
  exact (zs_one (z_ret (sx_comp K.gK K.c K.n (e_cal K c_lword_text (pa_cs (o_v (e_var 0)) pa_nl)) (blk_of (own := [("sign", 1)]) (by rfl)) (by decide) (fun s H C cl fp => (g_n 1 (K.blk s H _ cl C fp))) (fun s H C cl fp => pts_yes) (fun s H C cl fp => (e_bi call_ord rn_ord (K.blk s H _ cl C fp) (h.free 24) (pa_cs (o_v (e_var 1)) pa_nl))))))
theorem ok__law_tape {P : Program} {w : World} {G : Gx} {base : Heap} (h : Hd fa fn cs xf G) (hP : SupQ P) : Cal P w G base 1 "_law_tape" ["_law_script"] F__law_tape := by
  obtain ⟨fd, Fn⟩ := h.says.def_ 2 (d := dd__law_tape) rfl

  refine cal_ok (k := 0) (N := N__law_tape) Fn (h.glo 2) ⟨rfl, rfl, rfl, by decide +kernel, rfl, by decide +kernel, by decide +kernel⟩ rfl (fun _ _ _ _ _ _ us hl => match us, hl with | [_], _ => rfl) fun cdv A outer s H E hr => ?_
  have K := ok_cx (P := P) (w := w) (G := G) (base := base) (N := N__law_tape) (cdv := cdv) (A := A) (outer := outer) (s := s) (H := H) (E := E) hr (by decide +kernel)
  exact (zs_cons (s_set 1 K (sx_lst pa_nl))
    (zs_cons (s_for1 K po_cx (h.free 26) (e_bi call_lenA (rn_len K.gK) K (h.free 22) (pa_cs (o_v (e_var 0)) pa_nl)) (g_n 2 K) (zs_cons (s_set 3 K (e_bi call_abs rn_abs K (h.free 25) (pa_cs (o_v (e_ti call_intA rn_int K (h.free 23) (pa_cs (o_v (e_ix K (o_v (e_var 0)) (o_v (e_var 2)))) pa_nl))) pa_nl)))
    (zs_one (z_if (t_ge K (o_v (e_var 3)) (o_v (e_pow K (o_v e_int) (o_v e_int)))) (zs_one (s_for1 K po_cx (h.free 26) e_int (g_n 4 K) (zs_one (z_if (t_gt K (o_v (e_var 3)) (o_v e_int)) (zs_cons (s_app 1 K (e_mod K (o_v (e_var 3)) (o_v e_int)))
    (zs_one (s_set 3 K (e_fdv K (o_v (e_var 3)) (o_v e_int))))) zs_nil)))) (zs_one (s_for1 K po_cx (h.free 26) e_int (g_n 4 K) (zs_cons (s_set 3 K (e_mod K (o_v (e_add K (o_v (e_add K (o_v (e_mul K (o_v (e_var 3)) (o_v e_int))) (o_v (e_mul K (o_v e_int) (o_v (e_add K (o_v (e_var 2)) (o_v e_int))))))) (o_v (e_mul K (o_v e_int) (o_v (e_var 4)))))) (o_v e_int)))
    (zs_cons (s_set 3 K (e_mod K (o_v (e_mul K (o_v (e_var 3)) (o_v e_int))) (o_v e_int)))
    (zs_one (s_app 1 K (e_mod K (o_v (e_fdv K (o_v (e_var 3)) (o_v e_int))) (o_v e_int))))))))))))
    (zs_one (z_ret (e_mv 1)))))
theorem ok__law_at {P : Program} {w : World} {G : Gx} {base : Heap} (h : Hd fa fn cs xf G) (hP : SupQ P) : Cal P w G base 1 "_law_at" ["_law_tape_here", "_law_k"] F__law_at := by
  obtain ⟨fd, Fn⟩ := h.says.def_ 3 (d := dd__law_at) rfl

  refine cal_ok (k := 0) (N := N__law_at) Fn (h.glo 3) ⟨rfl, rfl, rfl, by decide +kernel, rfl, by decide +kernel, by decide +kernel⟩ rfl (fun _ _ _ _ _ _ us hl => match us, hl with | [_, _], _ => rfl) fun cdv A outer s H E hr => ?_
  have K := ok_cx (P := P) (w := w) (G := G) (base := base) (N := N__law_at) (cdv := cdv) (A := A) (outer := outer) (s := s) (H := H) (E := E) hr (by decide +kernel)
  exact (zs_cons (z_if (t_lt K (o_v (e_var 1)) (o_v (e_bi call_lenA (rn_len K.gK) K (h.free 22) (pa_cs (o_v (e_var 0)) pa_nl)))) (zs_one (z_ret (e_ix K (o_v (e_var 0)) (o_v (e_var 1))))) zs_nil)
    (zs_one (z_ret e_int)))
theorem ok__law_pick {P : Program} {w : World} {G : Gx} {base : Heap} (h : Hd fa fn cs xf G) (hP : SupQ P) : Cal P w G base 2 "_law_pick" ["_law_w", "_law_many"] F__law_pick := by
  obtain ⟨fd, Fn⟩ := h.says.def_ 4 (d := dd__law_pick) rfl
  have c_l_law_at := ok__law_at (P := P) (w := w) (base := base) h hP
  refine cal_ok (k := 1) (N := N__law_pick) Fn (h.glo 4) ⟨rfl, rfl, rfl, by decide +kernel, rfl, by decide +kernel, by decide +kernel⟩ rfl (fun _ _ _ _ _ _ us hl => match us, hl with | [_, _], _ => rfl) fun cdv A outer s H E hr => ?_
  have K := ok_cx (P := P) (w := w) (G := G) (base := base) (N := N__law_pick) (cdv := cdv) (A := A) (outer := outer) (s := s) (H := H) (E := E) hr (by decide +kernel)
  exact (zs_cons (s_put 0 K (sx_fz (e_add K (o_v (e_ix K (o_p 0) (o_v e_int))) (o_v e_int))) e_int)
    (zs_one (z_ret (e_mod K (o_v (e_add K (o_v (e_add K (o_v (e_mul K (o_v (e_cal K c_l_law_at (pa_cs (o_v (e_ix K (o_p 0) (o_v e_int))) (pa_cs (o_v (e_mod K (o_v (e_ix K (o_p 0) (o_v e_int))) (o_v e_int))) pa_nl)))) (o_v e_int))) (o_v (e_mul K (o_v (e_ix K (o_p 0) (o_v e_int))) (o_v (e_ix K (o_p 0) (o_v e_int))))))) (o_v (e_cal K c_l_law_at (pa_cs (o_v (e_ix K (o_p 0) (o_v e_int))) (pa_cs (o_v e_int) pa_nl)))))) (o_v (e_var 1))))))
theorem st_ok__law_value {P : Program} {w : World} {G : Gx} {base : Heap} {k : Nat} (hk : 2 ≤ k) (h : Hd fa fn cs xf G) (hP : SupQ P) {R__law_value : FnM} (c_l_law_value : Cal P w G base k "_law_value" ["_law_w", "_law_level"] R__law_value) : Cal P w G base (k + 1) "_law_value" ["_law_w", "_law_level"] (defM 4 [true, false] (m__law_value R__law_value)) := by
  obtain ⟨fd, Fn⟩ := h.says.def_ 5 (d := dd__law_value) rfl
  have c_l_law_pick := ok__law_pick (P := P) (w := w) (base := base) h hP
  refine cal_ok (k := k) (N := N__law_value) Fn (h.glo 5) ⟨rfl, rfl, rfl, by decide +kernel, rfl, by decide +kernel, by decide +kernel⟩ rfl (fun _ _ _ _ _ _ us hl => match us, hl with | [_, _], _ => rfl) fun cdv A outer s H E hr => ?_
  have K := ok_cx (P := P) (w := w) (G := G) (base := base) (N := N__law_value) (cdv := cdv) (A := A) (outer := outer) (s := s) (H := H) (E := E) hr (by decide +kernel)
  exact (zs_cons (s_set 2 K (sx_fz (e_cal K c_l_law_pick (pa_cs (o_p 0) (pa_cs (o_v e_int) pa_nl)) (by omega))))
    (zs_cons (z_if (t_eq K (o_v (e_var 2)) (o_v e_int)) (zs_one (z_ret e_non)) zs_nil)
    (zs_cons (z_if (t_eq K (o_v (e_var 2)) (o_v e_int)) (zs_one (z_ret (e_ix K (o_v (sx_lst (pa_cs (o_v e_int) (pa_cs (o_v e_int) (pa_cs (o_v e_int) (pa_cs (o_v e_int) (pa_cs (o_v (e_cal K c_l_law_pick (pa_cs (o_p 0) (pa_cs (o_v e_int) pa_nl)) (by omega))) pa_nl))))))) (o_v (e_cal K c_l_law_pick (pa_cs (o_p 0) (pa_cs (o_v e_int) pa_nl)) (by omega)))))) zs_nil)
    (zs_cons (z_if (sb_w (sw_or (t_eq K (o_v (e_var 2)) (o_v e_int)) (sw_or1 (t_gt K (o_v (e_var 1)) (o_v e_int))))) (zs_one (z_ret (e_bm PySem.F.plainAttrs_str PySem.F.slot_str_join PySem.F.type_str_join mt_join (rn_join K.gK) K (o_v e_str) (pa_cs (o_v (sx_compR1 K.gK K.c K.n rfl (K.m (h.free 26)) (pa_cons (e_cal K c_l_law_pick (pa_cs (o_p 0) (pa_cs (o_v e_int) pa_nl)) (by omega)) pa_nil) (blk_of (own := [("_law_k", 3)]) (by rfl)) (by decide) (fun s H C cl fp => (g_n 3 (K.blk s H _ cl C fp))) (fun s H C cl fp => pts_yes) (fun s H C cl fp => (e_ix (K.blk s H _ cl C fp) (o_v e_str) (o_v (e_cal (K.blk s H _ cl C fp) c_l_law_pick (pa_cs (o_p 0) (pa_cs (o_v e_int) pa_nl)) (by omega))))))) pa_nl)))) zs_nil)
    (zs_one (z_ret (e_ti call_tuple_of (rn_tuple K.gK) K (h.free 27) (pa_cs (o_v (sx_compR1 K.gK K.c K.n rfl (K.m (h.free 26)) (pa_cons (e_cal K c_l_law_pick (pa_cs (o_p 0) (pa_cs (o_v e_int) pa_nl)) (by omega)) pa_nil) (blk_of (own := [("_law_k", 3)]) (by rfl)) (by decide) (fun s H C cl fp => (g_n 3 (K.blk s H _ cl C fp))) (fun s H C cl fp => pts_yes) (fun s H C cl fp => (e_cal (K.blk s H _ cl C fp) c_l_law_value (pa_cs (o_p 0) (pa_cs (o_v (e_add (K.blk s H _ cl C fp) (o_v (e_var 1)) (o_v e_int))) pa_nl)) (by omega))))) pa_nl))))))))
theorem all_ok__law_value {P : Program} {w : World} {G : Gx} {base : Heap} (h : Hd fa fn cs xf G) (hP : SupQ P) : ∀ n : Nat, Cal P w G base (2 + n) "_law_value" ["_law_w", "_law_level"] (F__law_value n)
  | 0 => (by obtain ⟨fd, Fn⟩ := h.says.def_ 5 (d := dd__law_value) rfl; exact cal_zero Fn (h.glo 5) (fun _ _ _ _ _ _ us hl => match us, hl with | [_, _], _ => rfl))
  | n + 1 => st_ok__law_value (k := 2 + n) (by omega) h hP (all_ok__law_value h hP n)
theorem ok__law_value {P : Program} {w : World} {G : Gx} {base : Heap} (h : Hd fa fn cs xf G) (hP : SupQ P) : Cal P w G base 42 "_law_value" ["_law_w", "_law_level"] (F__law_value 40) := (all_ok__law_value h hP 40)
theorem st_ok__law_text {P : Program} {w : World} {G : Gx} {base : Heap} {k : Nat} (hk : 0 ≤ k) (h : Hd fa fn cs xf G) (hP : SupQ P) {R__law_text : FnM} (c_l_law_text : Cal P w G base k "_law_text" ["_law_value_here"] R__law_text) : Cal P w G base (k + 1) "_law_text" ["_law_value_here"] (defM 2 [false] (m__law_text R__law_text)) := by
  obtain ⟨fd, Fn⟩ := h.says.def_ 6 (d := dd__law_text) rfl

  refine cal_ok (k := k) (N := N__law_text) Fn (h.glo 6) ⟨rfl, rfl, rfl, by decide +kernel, rfl, by decide +kernel, by decide +kernel⟩ rfl (fun _ _ _ _ _ _ us hl => match us, hl with | [_], _ => rfl) fun cdv A outer s H E hr => ?_
  have K := ok_cx (P := P) (w := w) (G := G) (base := base) (N := N__law_text) (cdv := cdv) (A := A) (outer := outer) (s := s) (H := H) (E := E) hr (by decide +kernel)
  exact (zs_cons (z_if (t_isN K (o_v (e_var 0)) (o_v e_non)) (zs_one (z_ret e_str)) zs_nil)
    (zs_cons (z_if (sb_val (e_isi "int" K (h.free 20) (h.free 23) (o_v (e_var 0)))) (zs_one (z_ret (e_add K (o_v (e_add K (o_v e_str) (o_v (e_ti call_str_int rn_str K (h.free 21) (pa_cs (o_v (e_var 0)) pa_nl))))) (o_v e_str)))) zs_nil)
    (zs_cons (z_if (sb_val (e_isi "str" K (h.free 20) (h.free 21) (o_v (e_var 0)))) (zs_one (z_ret (e_add K (o_v (e_add K (o_v (e_add K (o_v e_str) (o_v (e_ti call_str_int rn_str K (h.free 21) (pa_cs (o_v (e_bi call_lenA (rn_len K.gK) K (h.free 22) (pa_cs (o_v (e_var 0)) pa_nl))) pa_nl))))) (o_v e_str))) (o_v (e_var 0))))) zs_nil)
    (zs_one (z_ret (e_add K (o_v (e_add K (o_v e_str) (o_v (e_bm PySem.F.plainAttrs_str PySem.F.slot_str_join PySem.F.type_str_join mt_join (rn_join K.gK) K (o_v e_str) (pa_cs (o_v (sx_comp K.gK K.c K.n (e_var 0) (blk_of (own := [("_law_part", 1)]) (by rfl)) (by decide) (fun s H C cl fp => (g_n 1 (K.blk s H _ cl C fp))) (fun s H C cl fp => pts_yes) (fun s H C cl fp => (e_cal (K.blk s H _ cl C fp) c_l_law_text (pa_cs (o_v (e_var 1)) pa_nl) (by omega))))) pa_nl))))) (o_v e_str)))))))
theorem all_ok__law_text {P : Program} {w : World} {G : Gx} {base : Heap} (h : Hd fa fn cs xf G) (hP : SupQ P) : ∀ n : Nat, Cal P w G base (0 + n) "_law_text" ["_law_value_here"] (F__law_text n)
  | 0 => (by obtain ⟨fd, Fn⟩ := h.says.def_ 6 (d := dd__law_text) rfl; exact cal_zero Fn (h.glo 6) (fun _ _ _ _ _ _ us hl => match us, hl with | [_], _ => rfl))
  | n + 1 => st_ok__law_text (k := 0 + n) (by omega) h hP (all_ok__law_text h hP n)
theorem ok__law_text {P : Program} {w : World} {G : Gx} {base : Heap} (h : Hd fa fn cs xf G) (hP : SupQ P) : Cal P w G base 40 "_law_text" ["_law_value_here"] (F__law_text 40) := (all_ok__law_text h hP 40)
theorem ok__law_fault {P : Program} {w : World} {G : Gx} {base : Heap} (h : Hd fa fn cs xf G) (hP : SupQ P) : Cal P w G base 1 "_law_fault" ["_law_data"] F__law_fault := by
  obtain ⟨fd, Fn⟩ := h.says.def_ 7 (d := dd__law_fault) rfl

  refine cal_ok (k := 0) (N := N__law_fault) Fn (h.glo 7) ⟨rfl, rfl, rfl, by decide +kernel, rfl, by decide +kernel, by decide +kernel⟩ rfl (fun _ _ _ _ _ _ us hl => match us, hl with | [_], _ => rfl) fun cdv A outer s H E hr => ?_
  have K := ok_cx (P := P) (w := w) (G := G) (base := base) (N := N__law_fault) (cdv := cdv) (A := A) (outer := outer) (s := s) (H := H) (E := E) hr (by decide +kernel)
  exact (zs_cons (s_set 1 K e_int)
    (zs_cons (s_set 2 K e_str)
    (zs_cons (s_set 3 K e_str)
    (zs_cons (s_set 4 K e_int)
    (zs_cons (s_for1 K po_cx (h.free 26) (e_bi call_lenA (rn_len K.gK) K (h.free 22) (pa_cs (o_v (e_var 0)) pa_nl)) (g_n 5 K) (zs_cons (s_set 6 K (e_ix K (o_v (e_var 0)) (o_v (e_var 5))))
    (zs_cons (z_if (sb_w (sw_or (sb_w (sw_and (t_nin K (o_v (e_var 6)) (o_v (sx_tup (pa_cs (o_v e_int) (pa_cs (o_v e_int) pa_nl))))) (sw_and1 (sb_w (sw_or (t_lt K (o_v (e_var 6)) (o_v e_int)) (sw_or (t_gt K (o_v (e_var 6)) (o_v e_int)) (sw_or1 (t_eq K (o_v (e_var 6)) (o_v e_int))))))))) (sw_or1 (t_eq K (o_v (e_var 2)) (o_v e_str))))) (zs_one (z_ret (e_var 5))) zs_nil)
    (zs_one (z_if (t_eq K (o_v (e_var 2)) (o_v e_str)) (zs_cons (s_set 4 K (e_sub K (o_v (e_var 4)) (o_v e_int)))
    (zs_one (z_if (t_eq K (o_v (e_var 4)) (o_v e_int)) (zs_one (s_set 2 K (e_ix K (o_v (sx_lst (pa_cs (o_v e_str) (pa_cs (o_v e_str) pa_nl)))) (o_v (e_ti call_intA rn_int K (h.free 23) (pa_cs (o_v (e_eq K (o_v (e_var 1)) (o_v e_int))) pa_nl)))))) zs_nil))) (zs_one (z_if (t_eq K (o_v (e_var 2)) (o_v e_str)) (zs_one (z_if (t_eq K (o_v (e_var 6)) (o_v e_int)) (zs_one (s_set 1 K (sx_fz (e_add K (o_v (e_var 1)) (o_v e_int))))) (zs_one (z_if (sb_w (sw_and (t_eq K (o_v (e_var 6)) (o_v e_int)) (sw_and1 (t_gt K (o_v (e_var 1)) (o_v e_int))))) (zs_cons (s_set 1 K (e_sub K (o_v (e_var 1)) (o_v e_int)))
    (zs_one (s_set 2 K (e_ix K (o_v (sx_lst (pa_cs (o_v e_str) (pa_cs (o_v e_str) pa_nl)))) (o_v (e_ti call_intA rn_int K (h.free 23) (pa_cs (o_v (e_eq K (o_v (e_var 1)) (o_v e_int))) pa_nl))))))) (zs_one (z_if (t_eq K (o_v (e_var 6)) (o_v e_int)) (zs_one (s_set 2 K (e_ix K (o_v (sx_lst (pa_cs (o_v e_str) (pa_cs (o_v e_str) pa_nl)))) (o_v (e_ti call_intA rn_int K (h.free 23) (pa_cs (o_v (e_eq K (o_v (e_var 1)) (o_v e_int))) pa_nl)))))) (zs_one (z_if (t_in K (o_v (e_var 6)) (o_v (sx_tup (pa_cs (o_v e_int) (pa_cs (o_v e_int) pa_nl))))) (zs_cons (s_set 2 K (e_ix K (o_v (sx_lst (pa_cs (o_v e_str) (pa_cs (o_v e_str) pa_nl)))) (o_v (e_ti call_intA rn_int K (h.free 23) (pa_cs (o_v (e_eq K (o_v (e_var 6)) (o_v e_int))) pa_nl)))))
    (zs_one (s_set 3 K e_str))) (zs_one (z_ret (e_var 5))))))))))) (zs_one (z_if (sb_w (sw_and (t_eq K (o_v (e_var 6)) (o_v (e_ix K (o_v (sx_lst (pa_cs (o_v e_int) (pa_cs (o_v e_int) pa_nl)))) (o_v (e_ti call_intA rn_int K (h.free 23) (pa_cs (o_v (e_eq K (o_v (e_var 2)) (o_v e_str))) pa_nl)))))) (sw_and1 (t_ne K (o_v (e_var 3)) (o_v e_str))))) (zs_cons (s_set 4 K e_int)
    (zs_cons (z_if (t_eq K (o_v (e_var 2)) (o_v e_str)) (zs_one (s_set 4 K (e_ti call_intA rn_int K (h.free 23) (pa_cs (o_v (e_var 3)) pa_nl)))) zs_nil)
    (zs_cons (s_set 2 K (e_ix K (o_v (sx_lst (pa_cs (o_v e_str) (pa_cs (o_v e_str) pa_nl)))) (o_v (e_ti call_intA rn_int K (h.free 23) (pa_cs (o_v (e_eq K (o_v (e_var 1)) (o_v e_int))) pa_nl)))))
    (zs_one (z_if (t_gt K (o_v (e_var 4)) (o_v e_int)) (zs_one (s_set 2 K e_str)) zs_nil))))) (zs_one (z_if (sb_w (sw_and (sb_chain (g := gLe) (g' := gLe) op_le op_le e_int (e_var 6) e_int) (sw_and (t_ne K (o_v (e_var 3)) (o_v e_str)) (sw_and1 (t_lt K (o_v (e_bi call_lenA (rn_len K.gK) K (h.free 22) (pa_cs (o_v (e_var 3)) pa_nl))) (o_v e_int)))))) (zs_one (s_set 3 K (sx_fz (e_add K (o_v (e_var 3)) (o_v (e_ix K (o_v e_str) (o_v (e_sub K (o_v (e_var 6)) (o_v e_int))))))))) (zs_one (z_ret (e_var 5))))))))))))))
    (zs_cons (z_if (t_ne K (o_v (e_var 2)) (o_v e_str)) (zs_one (z_ret (e_bi call_lenA (rn_len K.gK) K (h.free 22) (pa_cs (o_v (e_var 0)) pa_nl)))) zs_nil)
    (zs_one (z_ret (e_neg K (o_v e_int))))))))))
theorem ok_is_integer {P : Program} {w : World} {G : Gx} {base : Heap} (h : Hd fa fn cs xf G) (hP : SupQ P) : Cal P w G base 1 "is_integer" ["value"] F_is_integer := by
  obtain ⟨fd, Fn⟩ := h.says.def_ 8 (d := dd_is_integer) rfl

  refine cal_ok (k := 0) (N := N_is_integer) Fn (h.glo 8) ⟨rfl, rfl, rfl, by decide +kernel, rfl, by decide +kernel, by decide +kernel⟩ rfl (fun _ _ _ _ _ _ us hl => match us, hl with | [_], _ => rfl) fun cdv A outer s H E hr => ?_
  have K := ok_cx (P := P) (w := w) (G := G) (base := base) (N := N_is_integer) (cdv := cdv) (A := A) (outer := outer) (s := s) (H := H) (E := E) hr (by decide +kernel)
  exact (zs_one (z_ret (sv_and (sv_of (e_isi "int" K (h.free 20) (h.free 23) (o_v (e_var 0)))) (sv_and1 (sv_not (sv_of (e_isi "bool" K (h.free 20) (h.free 28) (o_v (e_var 0)))))))))
theorem ok_WordReader___init__ {P : Program} {w : World} {G : Gx} {base : Heap} (h : Hd fa fn cs xf G) (hP : SupQ P) : CalM P w G base 1 "WordReader" "__init__" ["self"] F_WordReader___init__ := by
  obtain ⟨fd, Fn⟩ := h.says.def_ 9 (d := dd_WordReader___init__) rfl

  refine calm_ok (k := 0) (N := N_WordReader___init__) (c := "WordReader") (m := "__init__") Fn (h.glo 29) (h.cls 30) (h.meth 9) ⟨rfl, rfl, rfl, by decide +kernel, rfl, by decide +kernel, by decide +kernel⟩ rfl (fun _ _ _ _ _ _ us hl => match us, hl with | [_], _ => rfl) fun cdv A outer s H E hr => ?_
  have K := ok_cx (P := P) (w := w) (G := G) (base := base) (N := N_WordReader___init__) (cdv := cdv) (A := A) (outer := outer) (s := s) (H := H) (E := E) hr (by decide +kernel)
  exact (zs_cons (s_setF K (h.glo 29) (h.cls 30) (h.noat 31) (pp_var (pv 0)) e_int)
    (zs_cons (s_setF K (h.glo 29) (h.cls 30) (h.noat 32) (pp_var (pv 0)) e_str)
    (zs_cons (s_setF K (h.glo 29) (h.cls 30) (h.noat 33) (pp_var (pv 0)) (sx_lst pa_nl))
    (zs_cons (s_setF K (h.glo 29) (h.cls 30) (h.noat 34) (pp_var (pv 0)) e_str)
    (zs_cons (s_setF K (h.glo 29) (h.cls 30) (h.noat 35) (pp_var (pv 0)) e_str)
    (zs_one (s_setF K (h.glo 29) (h.cls 30) (h.noat 36) (pp_var (pv 0)) e_non)))))))
theorem ok_WordReader_fail {P : Program} {w : World} {G : Gx} {base : Heap} (h : Hd fa fn cs xf G) (hP : SupQ P) : CalM P w G base 2 "WordReader" "fail" ["self"] F_WordReader_fail := by
  obtain ⟨fd, Fn⟩ := h.says.def_ 10 (d := dd_WordReader_fail) rfl

  refine calm_ok (k := 1) (N := N_WordReader_fail) (c := "WordReader") (m := "fail") Fn (h.glo 29) (h.cls 30) (h.meth 10) ⟨rfl, rfl, rfl, by decide +kernel, rfl, by decide +kernel, by decide +kernel⟩ rfl (fun _ _ _ _ _ _ us hl => match us, hl with | [_], _ => rfl) fun cdv A outer s H E hr => ?_
  have K := ok_cx (P := P) (w := w) (G := G) (base := base) (N := N_WordReader_fail) (cdv := cdv) (A := A) (outer := outer) (s := s) (H := H) (E := E) hr (by decide +kernel)
  exact (zs_one (K.raiseA (by omega) (h.exa 0 sd_BadByte hP.1) hP.2 (sx_get (p_fld K (h.glo 29) (h.cls 30) (h.noat 31) (pp_var (pv 0))))))
theorem ok_sign_of {P : Program} {w : World} {G : Gx} {base : Heap} (h : Hd fa fn cs xf G) (hP : SupQ P) : Cal P w G base 1 "sign_of" ["byte"] F_sign_of := by
  obtain ⟨fd, Fn⟩ := h.says.def_ 11 (d := dd_sign_of) rfl

  refine cal_ok (k := 0) (N := N_sign_of) Fn (h.glo 11) ⟨rfl, rfl, rfl, by decide +kernel, rfl, by decide +kernel, by decide +kernel⟩ rfl (fun _ _ _ _ _ _ us hl => match us, hl with | [_], _ => rfl) fun cdv A outer s H E hr => ?_
  have K := ok_cx (P := P) (w := w) (G := G) (base := base) (N := N_sign_of) (cdv := cdv) (A := A) (outer := outer) (s := s) (H := H) (E := E) hr (by decide +kernel)
  exact (zs_cons (z_if (t_eq K (o_v (e_var 0)) (o_v e_int)) (zs_one (z_ret e_str)) zs_nil)
    (zs_cons (z_if (t_eq K (o_v (e_var 0)) (o_v e_int)) (zs_one (z_ret e_str)) zs_nil)
    (zs_cons (z_if (sb_w (sw_and (sb_chain (g := gLe) (g' := gLe) op_le op_le (e_glob K (h.con 0)) (e_var 0) (e_glob K (h.con 1))) (sw_and1 (t_ne K (o_v (e_var 0)) (o_v (e_glob K (h.con 2))))))) (zs_one (z_ret (e_ix K (o_v (e_glob K (h.con 3))) (o_v (e_sub K (o_v (e_var 0)) (o_v (e_glob K (h.con 0)))))))) zs_nil)
    (zs_one (z_ret e_non)))))
theorem ok_WordReader_put {P : Program} {w : World} {G : Gx} {base : Heap} (h : Hd fa fn cs xf G) (hP : SupQ P) : CalM P w G base 1 "WordReader" "put" ["self", "value"] F_WordReader_put := by
  obtain ⟨fd, Fn⟩ := h.says.def_ 12 (d := dd_WordReader_put) rfl

  refine calm_ok (k := 0) (N := N_WordReader_put) (c := "WordReader") (m := "put") Fn (h.glo 29) (h.cls 30) (h.meth 12) ⟨rfl, rfl, rfl, by decide +kernel, rfl, by decide +kernel, by decide +kernel⟩ rfl (fun _ _ _ _ _ _ us hl => match us, hl with | [_, _], _ => rfl) fun cdv A outer s H E hr => ?_
  have K := ok_cx (P := P) (w := w) (G := G) (base := base) (N := N_WordReader_put) (cdv := cdv) (A := A) (outer := outer) (s := s) (H := H) (E := E) hr (by decide +kernel)
  exact (zs_cons (s_setF K (h.glo 29) (h.cls 30) (h.noat 32) (pp_var (pv 0)) e_str)
    (zs_one (z_if (sb_truL K (p_fld K (h.glo 29) (h.cls 30) (h.noat 33) (pp_var (pv 0)))) (zs_one (z_appP (ps_app (pp_ix K (p_fld K (h.glo 29) (h.cls 30) (h.noat 33) (pp_var (pv 0))) pe_negc) (e_var 1)))) (zs_cons (s_setF K (h.glo 29) (h.cls 30) (h.noat 36) (pp_var (pv 0)) (e_var 1))
    (zs_one (s_setF K (h.glo 29) (h.cls 30) (h.noat 32) (pp_var (pv 0)) e_str))))))
theorem ok_WordReader_take_value {P : Program} {w : World} {G : Gx} {base : Heap} (h : Hd fa fn cs xf G) (hP : SupQ P) : CalM P w G base 3 "WordReader" "take_value" ["self", "sign"] F_WordReader_take_value := by
  obtain ⟨fd, Fn⟩ := h.says.def_ 13 (d := dd_WordReader_take_value) rfl
  have c_lWordReader_put := ok_WordReader_put (P := P) (w := w) (base := base) h hP
  have c_lWordReader_fail := ok_WordReader_fail (P := P) (w := w) (base := base) h hP
  refine calm_ok (k := 2) (N := N_WordReader_take_value) (c := "WordReader") (m := "take_value") Fn (h.glo 29) (h.cls 30) (h.meth 13) ⟨rfl, rfl, rfl, by decide +kernel, rfl, by decide +kernel, by decide +kernel⟩ rfl (fun _ _ _ _ _ _ us hl => match us, hl with | [_, _], _ => rfl) fun cdv A outer s H E hr => ?_
  have K := ok_cx (P := P) (w := w) (G := G) (base := base) (N := N_WordReader_take_value) (cdv := cdv) (A := A) (outer := outer) (s := s) (H := H) (E := E) hr (by decide +kernel)
  exact (zs_one (z_if (t_eq K (o_v (e_var 1)) (o_v e_str)) (zs_one (z_drop (e_meth K c_lWordReader_put (o_p 0) (pa_cs (o_v e_non) pa_nl)))) (zs_one (z_if (t_eq K (o_v (e_var 1)) (o_v e_str)) (zs_one (z_appP (ps_app (p_fld K (h.glo 29) (h.cls 30) (h.noat 33) (pp_var (pv 0))) (sx_lst pa_nl)))) (zs_one (z_if (sb_w (sw_and (t_eq K (o_v (e_var 1)) (o_v e_str)) (sw_and1 (sb_truL K (p_fld K (h.glo 29) (h.cls 30) (h.noat 33) (pp_var (pv 0))))))) (zs_one (z_drop (e_meth K c_lWordReader_put (o_p 0) (pa_cs (o_v (e_ti call_tuple_of (rn_tuple K.gK) K (h.free 27) (pa_cs (o_v (sx_pop K.gK (pe_pop (p_fld K (h.glo 29) (h.cls 30) (h.noat 33) (pp_var (pv 0)))))) pa_nl))) pa_nl)))) (zs_one (z_if (sb_w (sw_or (t_eq K (o_v (e_var 1)) (o_v e_str)) (sw_or1 (t_eq K (o_v (e_var 1)) (o_v e_str))))) (zs_cons (s_setF K (h.glo 29) (h.cls 30) (h.noat 32) (pp_var (pv 0)) (e_var 1))
    (zs_one (s_setF K (h.glo 29) (h.cls 30) (h.noat 34) (pp_var (pv 0)) e_str))) (zs_one (z_drop (e_meth0 K c_lWordReader_fail (o_p 0))))))))))))
theorem ok_WordReader_end_digits {P : Program} {w : World} {G : Gx} {base : Heap} (h : Hd fa fn cs xf G) (hP : SupQ P) : CalM P w G base 2 "WordReader" "end_digits" ["self"] F_WordReader_end_digits := by
  obtain ⟨fd, Fn⟩ := h.says.def_ 14 (d := dd_WordReader_end_digits) rfl
  have c_lWordReader_put := ok_WordReader_put (P := P) (w := w) (base := base) h hP
  refine calm_ok (k := 1) (N := N_WordReader_end_digits) (c := "WordReader") (m := "end_digits") Fn (h.glo 29) (h.cls 30) (h.meth 14) ⟨rfl, rfl, rfl, by decide +kernel, rfl, by decide +kernel, by decide +kernel⟩ rfl (fun _ _ _ _ _ _ us hl => match us, hl with | [_], _ => rfl) fun cdv A outer s H E hr => ?_
  have K := ok_cx (P := P) (w := w) (G := G) (base := base) (N := N_WordReader_end_digits) (cdv := cdv) (A := A) (outer := outer) (s := s) (H := H) (E := E) hr (by decide +kernel)
  exact (zs_one (z_if (t_eq K (o_v (sx_get (p_fld K (h.glo 29) (h.cls 30) (h.noat 32) (pp_var (pv 0))))) (o_v e_str)) (zs_one (z_drop (e_meth K c_lWordReader_put (o_p 0) (pa_cs (o_v (e_ti call_intA rn_int K (h.free 23) (pa_cs (o_v (sx_get (p_fld K (h.glo 29) (h.cls 30) (h.noat 34) (pp_var (pv 0))))) pa_nl))) pa_nl)))) (zs_one (z_if (t_eq K (o_v (sx_get (p_fld K (h.glo 29) (h.cls 30) (h.noat 34) (pp_var (pv 0))))) (o_v e_str)) (zs_one (z_drop (e_meth K c_lWordReader_put (o_p 0) (pa_cs (o_v e_str) pa_nl)))) (zs_cons (s_setF K (h.glo 29) (h.cls 30) (h.noat 35) (pp_var (pv 0)) e_str)
    (zs_one (s_setF K (h.glo 29) (h.cls 30) (h.noat 32) (pp_var (pv 0)) e_str)))))))
theorem ok_WordReader_take_digit {P : Program} {w : World} {G : Gx} {base : Heap} (h : Hd fa fn cs xf G) (hP : SupQ P) : CalM P w G base 3 "WordReader" "take_digit" ["self", "sign"] F_WordReader_take_digit := by
  obtain ⟨fd, Fn⟩ := h.says.def_ 15 (d := dd_WordReader_take_digit) rfl
  have c_lWordReader_end_digits := ok_WordReader_end_digits (P := P) (w := w) (base := base) h hP
  have c_lWordReader_fail := ok_WordReader_fail (P := P) (w := w) (base := base) h hP
  refine calm_ok (k := 2) (N := N_WordReader_take_digit) (c := "WordReader") (m := "take_digit") Fn (h.glo 29) (h.cls 30) (h.meth 15) ⟨rfl, rfl, rfl, by decide +kernel, rfl, by decide +kernel, by decide +kernel⟩ rfl (fun _ _ _ _ _ _ us hl => match us, hl with | [_, _], _ => rfl) fun cdv A outer s H E hr => ?_
  have K := ok_cx (P := P) (w := w) (G := G) (base := base) (N := N_WordReader_take_digit) (cdv := cdv) (A := A) (outer := outer) (s := s) (H := H) (E := E) hr (by decide +kernel)
  exact (zs_cons (s_set 2 K e_str)
    (zs_cons (z_if (t_eq K (o_v (sx_get (p_fld K (h.glo 29) (h.cls 30) (h.noat 32) (pp_var (pv 0))))) (o_v e_str)) (zs_one (s_set 2 K e_str)) zs_nil)
    (zs_one (z_if (sb_w (sw_and (t_eq K (o_v (e_var 1)) (o_v (e_var 2))) (sw_and1 (t_ne K (o_v (sx_get (p_fld K (h.glo 29) (h.cls 30) (h.noat 34) (pp_var (pv 0))))) (o_v e_str))))) (zs_one (z_drop (e_meth0 K c_lWordReader_end_digits (o_p 0)))) (zs_one (z_if (sb_w (sw_and (t_in K (o_v (e_var 1)) (o_v (e_glob K (h.con 4)))) (sw_and (t_ne K (o_v (sx_get (p_fld K (h.glo 29) (h.cls 30) (h.noat 34) (pp_var (pv 0))))) (o_v e_str)) (sw_and1 (t_lt K (o_v (e_bi call_lenA (rn_len K.gK) K (h.free 22) (pa_cs (o_v (sx_get (p_fld K (h.glo 29) (h.cls 30) (h.noat 34) (pp_var (pv 0))))) pa_nl))) (o_v (e_glob K (h.con 5)))))))) (zs_one (s_setF K (h.glo 29) (h.cls 30) (h.noat 34) (pp_var (pv 0)) (sx_fz (e_add K (o_v (sx_get (p_fld K (h.glo 29) (h.cls 30) (h.noat 34) (pp_var (pv 0))))) (o_v (e_var 1)))))) (zs_one (z_drop (e_meth0 K c_lWordReader_fail (o_p 0))))))))))
theorem ok_WordReader_take {P : Program} {w : World} {G : Gx} {base : Heap} (h : Hd fa fn cs xf G) (hP : SupQ P) : CalM P w G base 4 "WordReader" "take" ["self", "byte"] F_WordReader_take := by
  obtain ⟨fd, Fn⟩ := h.says.def_ 16 (d := dd_WordReader_take) rfl
  have c_lsign_of := ok_sign_of (P := P) (w := w) (base := base) h hP
  have c_lWordReader_fail := ok_WordReader_fail (P := P) (w := w) (base := base) h hP
  have c_lWordReader_take_value := ok_WordReader_take_value (P := P) (w := w) (base := base) h hP
  have c_lWordReader_put := ok_WordReader_put (P := P) (w := w) (base := base) h hP
  have c_lWordReader_take_digit := ok_WordReader_take_digit (P := P) (w := w) (base := base) h hP
  refine calm_ok (k := 3) (N := N_WordReader_take) (c := "WordReader") (m := "take") Fn (h.glo 29) (h.cls 30) (h.meth 16) ⟨rfl, rfl, rfl, by decide +kernel, rfl, by decide +kernel, by decide +kernel⟩ rfl (fun _ _ _ _ _ _ us hl => match us, hl with | [_, _], _ => rfl) fun cdv A outer s H E hr => ?_
  have K := ok_cx (P := P) (w := w) (G := G) (base := base) (N := N_WordReader_take) (cdv := cdv) (A := A) (outer := outer) (s := s) (H := H) (E := E) hr (by decide +kernel)
  exact (zs_cons (s_set 2 K (sx_fz (e_cal K c_lsign_of (pa_cs (o_v (e_var 1)) pa_nl))))
    (zs_cons (z_if (sb_w (sw_or (t_isN K (o_v (e_var 2)) (o_v e_non)) (sw_or1 (t_eq K (o_v (sx_get (p_fld K (h.glo 29) (h.cls 30) (h.noat 32) (pp_var (pv 0))))) (o_v e_str))))) (zs_one (z_drop (e_meth0 K c_lWordReader_fail (o_p 0)))) zs_nil)
    (zs_cons (z_if (t_eq K (o_v (sx_get (p_fld K (h.glo 29) (h.cls 30) (h.noat 32) (pp_var (pv 0))))) (o_v e_str)) (zs_one (z_drop (e_meth K c_lWordReader_take_value (o_p 0) (pa_cs (o_v (e_var 2)) pa_nl)))) (zs_one (z_if (t_eq K (o_v (sx_get (p_fld K (h.glo 29) (h.cls 30) (h.noat 32) (pp_var (pv 0))))) (o_v e_str)) (zs_cons (s_setF K (h.glo 29) (h.cls 30) (h.noat 35) (pp_var (pv 0)) (sx_fz (e_add K (o_v (sx_get (p_fld K (h.glo 29) (h.cls 30) (h.noat 35) (pp_var (pv 0))))) (o_v (e_var 2)))))
    (zs_one (z_if (t_eq K (o_v (e_bi call_lenA (rn_len K.gK) K (h.free 22) (pa_cs (o_v (sx_get (p_fld K (h.glo 29) (h.cls 30) (h.noat 35) (pp_var (pv 0))))) pa_nl))) (o_v (e_ti call_intA rn_int K (h.free 23) (pa_cs (o_v (sx_get (p_fld K (h.glo 29) (h.cls 30) (h.noat 34) (pp_var (pv 0))))) pa_nl)))) (zs_one (z_drop (e_meth K c_lWordReader_put (o_p 0) (pa_cs (o_v (sx_get (p_fld K (h.glo 29) (h.cls 30) (h.noat 35) (pp_var (pv 0))))) pa_nl)))) zs_nil))) (zs_one (z_drop (e_meth K c_lWordReader_take_digit (o_p 0) (pa_cs (o_v (e_var 2)) pa_nl)))))))
    (zs_one (s_augFAdd K (h.glo 29) (h.cls 30) (h.noat 31) (pp_var (pv 0)) e_int)))))
theorem ok_read_word {P : Program} {w : World} {G : Gx} {base : Heap} (h : Hd fa fn cs xf G) (hP : SupQ P) : Cal P w G base 5 "read_word" ["data"] F_read_word := by
  obtain ⟨fd, Fn⟩ := h.says.def_ 17 (d := dd_read_word) rfl
  have c_lis_integer := ok_is_integer (P := P) (w := w) (base := base) h hP
  have c_lWordReader___init__ := ok_WordReader___init__ (P := P) (w := w) (base := base) h hP
  have c_lWordReader_take := ok_WordReader_take (P := P) (w := w) (base := base) h hP
  have c_lWordReader_fail := ok_WordReader_fail (P := P) (w := w) (base := base) h hP
  refine cal_ok (k := 4) (N := N_read_word) Fn (h.glo 17) ⟨rfl, rfl, rfl, by decide +kernel, rfl, by decide +kernel, by decide +kernel⟩ rfl (fun _ _ _ _ _ _ us hl => match us, hl with | [_], _ => rfl) fun cdv A outer s H E hr => ?_
  have K := ok_cx (P := P) (w := w) (G := G) (base := base) (N := N_read_word) (cdv := cdv) (A := A) (outer := outer) (s := s) (H := H) (E := E) hr (by decide +kernel)
  exact (zs_cons (z_if (sb_w (sw_or (sb_not (sb_val (e_isi "list" K (h.free 20) (h.free 37) (o_v (e_var 0))))) (sw_or1 (sb_not (sb_val (e_bi (cr_all K.c) (rn_all K.gK) K (h.free 38) (pa_cs (o_v (sx_comp K.gK K.c K.n (e_var 0) (blk_of (own := [("byte", 1)]) (by rfl)) (by decide) (fun s H C cl fp => (g_n 1 (K.blk s H _ cl C fp))) (fun s H C cl fp => pts_yes) (fun s H C cl fp => (e_cal (K.blk s H _ cl C fp) c_lis_integer (pa_cs (o_v (e_var 1)) pa_nl))))) pa_nl))))))) (zs_one (K.raise0 (h.exn 1))) zs_nil)
    (zs_cons (s_set 2 K (e_make0 K (c_lWordReader___init__.made (h.glo 29) (h.mkr 39))))
    (zs_cons (s_for K po_cx (e_var 0) (g_n 1 K) (zs_one (z_drop (e_meth K c_lWordReader_take (o_p 2) (pa_cs (o_v (e_var 1)) pa_nl)))))
    (zs_cons (z_if (t_ne K (o_v (sx_get (p_fld K (h.glo 29) (h.cls 30) (h.noat 32) (pp_var (pv 2))))) (o_v e_str)) (zs_one (z_drop (e_meth0 K c_lWordReader_fail (o_p 2)))) zs_nil)
    (zs_one (z_ret (sx_get (p_fld K (h.glo 29) (h.cls 30) (h.noat 36) (pp_var (pv 2))))))))))
theorem ok__law_told {P : Program} {w : World} {G : Gx} {base : Heap} (h : Hd fa fn cs xf G) (hP : SupQ P) : Cal P w G base 6 "_law_told" ["_law_data"] F__law_told := by
  obtain ⟨fd, Fn⟩ := h.says.def_ 18 (d := dd__law_told) rfl
  have c_lread_word := ok_read_word (P := P) (w := w) (base := base) h hP
  refine cal_ok (k := 5) (N := N__law_told) Fn (h.glo 18) ⟨rfl, rfl, rfl, by decide +kernel, rfl, by decide +kernel, by decide +kernel⟩ rfl (fun _ _ _ _ _ _ us hl => match us, hl with | [_], _ => rfl) fun cdv A outer s H E hr => ?_
  have K := ok_cx (P := P) (w := w) (G := G) (base := base) (N := N__law_told) (cdv := cdv) (A := A) (outer := outer) (s := s) (H := H) (E := E) hr (by decide +kernel)
  exact (zs_one (z_tryAs K rfl rfl (i := 1) rfl rfl (by decide) ⟨rfl, by decide, .inl (K.m (h.exn 2).m)⟩ (fun y b C e m => (tab_StreamError h y b C e m).1.1) (fun W' pn' xe t po => (zs_one (z_ret (sx_tup (pa_cs (o_v e_str) (pa_cs (o_v (e_cal (K.tr t) c_lread_word (pa_cs (o_v (e_var 0)) pa_nl))) pa_nl)))))) (fun z a oe C d pn' h1 h2 hz hv => (zs_cons (z_if (sb_val (e_isA K (tab_StreamError h z.cls true C h1 h2).2 hz hv (h.free 20) (h.exa0 0).m (fun b e => (tab_BadByte h z.cls b C e h2).1.2) (pv 1))) (zs_one (z_ret (sx_tup (pa_cs (o_v e_str) (pa_cs (o_v (e_xf K (tab_StreamError h z.cls true C h1 h2).2 hz hv (fun e => by have e2 := of_decide_eq_true e; rw [e2, (h.exa0 0).m] at h2; cases h2; exact (h.exa0 0).n) (pv 1))) pa_nl))))) zs_nil)
    (zs_one (z_ret (sx_tup (pa_cs (o_v e_str) (pa_cs (o_v (e_isA K (tab_StreamError h z.cls true C h1 h2).2 hz hv (h.free 20) (h.exn 1).m (fun b e => (tab_NotValid h z.cls b C e h2).1.2) (pv 1))) pa_nl)))))))))
theorem ok_law {P : Program} {w : World} {G : Gx} {base : Heap} {fd : FuncData} (h : Hd fa fn cs xf G) (hP : SupQ P) (Fn : FunD G.K "law" "law" (defArgs st_law) (defBody st_law) (defScope st_law) [] [] (He.ga G.K "law") fd) : FnOk P w G.K G.mg base (L2.CX P w) 202 (He.ga G.K "law") fd ["_law_script"] (spOf G F_law) := by
  have c_l_law_tape := ok__law_tape (P := P) (w := w) (base := base) h hP
  have c_l_law_value := ok__law_value (P := P) (w := w) (base := base) h hP
  have c_l_law_text := ok__law_text (P := P) (w := w) (base := base) h hP
  have c_lwrite_word := ok_write_word (P := P) (w := w) (base := base) h hP
  have c_l_law_told := ok__law_told (P := P) (w := w) (base := base) h hP
  have c_l_law_fault := ok__law_fault (P := P) (w := w) (base := base) h hP
  have c_l_law_pick := ok__law_pick (P := P) (w := w) (base := base) h hP
  refine fnv_ok (k := 201) (N := N_law) Fn ⟨rfl, rfl, rfl, by decide +kernel, rfl, by decide +kernel, by decide +kernel⟩ rfl fun cdv A outer s H E hr => ?_
  have K := ok_cx (P := P) (w := w) (G := G) (base := base) (N := N_law) (cdv := cdv) (A := A) (outer := outer) (s := s) (H := H) (E := E) hr (by decide +kernel)
  exact (zs_cons (s_set 1 K (sx_lst (pa_cs (o_v (e_cal K c_l_law_tape (pa_cs (o_v (e_var 0)) pa_nl))) (pa_cs (o_v e_int) pa_nl))))
    (zs_cons (s_set 2 K (sx_fz (e_cal K c_l_law_value (pa_cs (o_p 1) (pa_cs (o_v e_int) pa_nl)))))
    (zs_cons (z_setComp K.gK K.c K.n (e_cal K c_l_law_text (pa_cs (o_v (e_var 2)) pa_nl)) (blk_of (own := [("_law_sign", 4)]) (by rfl)) (by decide) (fun s H C cl fp => (g_n 4 (K.blk s H _ cl C fp))) (fun s H C cl fp => pts_yes) (fun s H C cl fp => (e_bi call_ord rn_ord (K.blk s H _ cl C fp) (h.free 24) (pa_cs (o_v (e_var 4)) pa_nl))))
    (zs_cons (z_if (sb_w (sw_or (t_ne K (o_v (e_cal K c_lwrite_word (pa_cs (o_v (e_var 2)) pa_nl))) (o_v (e_var 3))) (sw_or (t_ne K (o_v (e_cal K c_l_law_told (pa_cs (o_v (e_var 3)) pa_nl))) (o_v (sx_tup (pa_cs (o_v e_str) (pa_cs (o_v (e_var 2)) pa_nl))))) (sw_or1 (t_ne K (o_v (e_cal K c_l_law_fault (pa_cs (o_v (e_var 3)) pa_nl))) (o_v (e_neg K (o_v e_int)))))))) (zs_one (z_ret e_bl)) zs_nil)
    (zs_cons (s_for1 K po_cx (h.free 26) e_int (g_n 5 K) (zs_cons (s_set 6 K (sx_fz (e_cal K c_l_law_pick (pa_cs (o_p 1) (pa_cs (o_v (e_add K (o_v (e_bi call_lenA (rn_len K.gK) K (h.free 22) (pa_cs (o_v (e_var 3)) pa_nl))) (o_v e_int))) pa_nl)))))
    (zs_cons (s_set 7 K (e_ix K (o_v (sx_lst (pa_cs (o_v e_int) (pa_cs (o_v e_int) (pa_cs (o_v e_int) (pa_cs (o_v e_int) (pa_cs (o_v e_int) (pa_cs (o_v e_int) (pa_cs (o_v e_int) (pa_cs (o_v e_int) (pa_cs (o_v e_int) (pa_cs (o_v e_int) (pa_cs (o_v e_int) (pa_cs (o_v e_int) (pa_cs (o_v e_int) (pa_cs (o_v (e_neg K (o_v e_int))) (pa_cs (o_v e_int) pa_nl))))))))))))))))) (o_v (e_cal K c_l_law_pick (pa_cs (o_p 1) (pa_cs (o_v e_int) pa_nl))))))
    (zs_cons (s_set 8 K (e_ix K (o_v (sx_lst (pa_cs (o_v (e_sl01 K (o_v (e_var 3)) (o_v (e_var 6)))) (pa_cs (o_v (e_add K (o_v (e_add K (o_v (e_sl01 K (o_v (e_var 3)) (o_v (e_var 6)))) (o_v (sx_lst (pa_cs (o_v (e_var 7)) pa_nl))))) (o_v (e_sl10 K (o_v (e_var 3)) (o_v (e_var 6)))))) (pa_cs (o_v (e_add K (o_v (e_add K (o_v (e_sl01 K (o_v (e_var 3)) (o_v (e_var 6)))) (o_v (sx_lst (pa_cs (o_v (e_var 7)) pa_nl))))) (o_v (e_sl10 K (o_v (e_var 3)) (o_v (e_add K (o_v (e_var 6)) (o_v e_int))))))) pa_nl))))) (o_v (e_cal K c_l_law_pick (pa_cs (o_p 1) (pa_cs (o_v e_int) pa_nl))))))
    (zs_cons (s_set 9 K (sx_fz (e_cal K c_l_law_fault (pa_cs (o_v (e_var 8)) pa_nl))))
    (zs_cons (s_set 10 K (sx_fz (e_cal K c_l_law_told (pa_cs (o_v (e_var 8)) pa_nl))))
    (zs_one (z_if (sb_w (sw_or (sb_w (sw_and (t_ge K (o_v (e_var 9)) (o_v e_int)) (sw_and1 (t_ne K (o_v (e_var 10)) (o_v (sx_tup (pa_cs (o_v e_str) (pa_cs (o_v (e_var 9)) pa_nl)))))))) (sw_or1 (sb_w (sw_and (t_lt K (o_v (e_var 9)) (o_v e_int)) (sw_and1 (sb_w (sw_or (t_ne K (o_v (e_ix K (o_v (e_var 10)) (o_v e_int))) (o_v e_str)) (sw_or1 (t_ne K (o_v (e_cal K c_lwrite_word (pa_cs (o_v (e_ix K (o_v (e_var 10)) (o_v e_int))) pa_nl))) (o_v (e_var 8)))))))))))) (zs_one (z_ret e_bl)) zs_nil))))))))
    (zs_cons (s_for K po_cx (sx_tup (pa_cs (o_v e_non) (pa_cs (o_v e_str) (pa_cs (o_v (sx_tup (pa_cs (o_v e_int) pa_nl))) (pa_cs (o_v (sx_lst (pa_cs (o_v e_non) pa_nl))) (pa_cs (o_v (sx_lst (pa_cs (o_v e_bl) pa_nl))) pa_nl)))))) (g_n 11 K) (zs_one (z_if (t_ne K (o_v (e_cal K c_l_law_told (pa_cs (o_v (e_var 11)) pa_nl))) (o_v (sx_tup (pa_cs (o_v e_str) (pa_cs (o_v e_bl) pa_nl))))) (zs_one (z_ret e_bl)) zs_nil)))
    (zs_one (z_ret e_bl))))))))
abbrev R : PySem.W.OpenRow := PySem.W.OpenLaw.row PySem.Challenge.rw_hewstream_k11_words
abbrev hk : PySem.W.Hook := hookV 5 fa fn cs xf
def ob (s : PySem.W.SharedT) : AlV := obsV 5 fa fn cs xf (HandSHeadRun.getT s)
theorem ob_eq (s : PySem.W.SharedT) : ob s = hk.obs s.abs := obsV_eq (HandSHeadRun.getT_eq s)
def names : List Str := (["__name__", "StreamError", "NotValid", "BadByte", "FIRST_SIGN", "LAST_SIGN", "NO_SIGN", "SIGNS", "is_integer", "sign_of", "DIGITS", "MOST_DIGITS", "word_text", "write_word", "WordReader", "read_word", "_law_tape", "_law_at", "_law_pick", "_law_value", "_law_text", "_law_fault", "_law_told"] : List Str)
theorem run (w : World) : HandSHeadRun.RunEq R (PySem.W.view R.prog [26]) hk ob 12000 names w := by
  intro os
  kernel_rfl
/-- what is left: the law's own function says true -/
theorem head (law : ∀ ns : List Int, ns.length ≤ 63 → ∃ bk, F_law [.v (.rol (ns.map .int))] = .ok (.v (.bl true)) bk) : PySem.Challenge.rw_hewstream_k11_words.Holds := by
  open PySem.W PySem.Calls PyProof.Rows in
  w_on; o_law
  refine HandSHeadRun.head_any (r := PySem.W.OpenLaw.row PySem.Challenge.rw_hewstream_k11_words) (q := PySem.W.view (PySem.W.OpenLaw.row PySem.Challenge.rw_hewstream_k11_words).prog [26]) (H := hk) (ob := ob) (M := 12000) (loose := names) (d := HandSHeadRun.topDef (PySem.W.OpenLaw.row PySem.Challenge.rw_hewstream_k11_words).prog 26) (kwd := []) ob_eq
    (by kernel_rfl) (fun s => by kernel_rfl) run (by kernel_rfl) (by kernel_rfl) (by kernel_rfl) (by rfl) (by first | assumption | decide +kernel) (by decide +kernel) ⟨rfl, rfl, rfl, rfl, rfl, by decide +kernel⟩ ?hw ?hc
  case hw => w_witness2
  case hc =>
    refine walk_V (l := PySem.Challenge.rw_hewstream_k11_words) (n := 63) (k := 202) (x := "_law_script") (y := "law") rfl (by decide) (by kernel_rfl) ⟨rfl, by decide, by decide⟩ (by kernel_rfl) ?F
    intro w mg h Y N
    obtain ⟨K, KX, c, cc, ci⟩ := Y
    have hd : Hd fa fn cs xf ⟨K, mg, 0, none⟩ := ⟨c, cc, ci, h, KX, N⟩
    obtain ⟨fd, Fn⟩ := c.def_ 19 (d := dd_law) rfl
    have b := FunD.bindsA (ps := ["_law_script"]) Fn fun _ _ _ _ _ _ us hl => match us, hl with | [_], _ => rfl
    exact ⟨K, F_law, fd, _, KX, hd.glo 19, fun s v => b s [v] rfl, law, fun base _ _ => ok_law (G := ⟨K, mg, 0, none⟩) hd ⟨by kernel_rfl, by kernel_rfl⟩ Fn⟩
end Lw

namespace Lw
open PySem L2 Vs VsEv


def sgB (c : Nat) : Bool := decide (c = 9) || decide (c = 10) || (decide (32 ≤ c) && decide (c ≤ 126) && decide (c ≠ 37))
def ch1 (c : Nat) : Str := ⟨#[c]⟩
theorem ch1_len (c : Nat) : (ch1 c).length = 1 := rfl
def sgD (i : Int) : D := if i = 9 ∨ i = 10 ∨ (32 ≤ i ∧ i ≤ 126 ∧ i ≠ 37) then .str (ch1 i.toNat) else .non
def sgT : Str := " !\"#$ &'()*+,-./0123456789:;<=>?@ABCDEFGHIJKLMNOPQRSTUVWXYZ[\\]^_`abcdefghijklmnopqrstuvwxyz{|}~"
theorem sgT_at : ((List.range 95).all fun k => decide (sgT.cps.toList[k]? = some (if k = 5 then 32 else k + 32))) = true := by decide +kernel
theorem sgT_ix {i : Int} (h1 : 32 ≤ i) (h2 : i ≤ 126) (h3 : i ≠ 37) : opIx [.str sgT, .int (i - 32)] = some (.v (.str (ch1 i.toNat))) := by
  rw [opIx_str (by decide +kernel), Vs.atI_nat (by omega)]
  have h := List.all_eq_true.mp sgT_at (i - 32).toNat (List.mem_range.mpr (by omega))
  rw [of_decide_eq_true h, if_neg (by omega)]
  have : (i - 32).toNat + 32 = i.toNat := by omega
  rw [this]; rfl
theorem sign_of_e (i : Int) : F_sign_of [.v (.int i)] = .ok (.v (sgD i)) [none] := by
  unfold F_sign_of m_sign_of sgD c_FIRST_SIGN c_LAST_SIGN c_NO_SIGN c_SIGNS
  by_cases h1 : i = 9
  · subst h1; simp! only []; rfl
  · by_cases h2 : i = 10
    · subst h2; simp! only []; rfl
    · by_cases h3 : 32 ≤ i
      · by_cases h4 : i ≤ 126
        · by_cases h5 : i = 37
          · subst h5; simp! only []
          · have := sgT_ix h3 h4 h5
            unfold sgT at this
            simp! only [h1, h2, h3, h4, h5, this]
        · simp! only [h1, h2, h3, h4]
      · simp! only [h1, h2, h3]
def letters : List Nat := ("abcdefghijklmnopqrstuvwxyz" : Str).cps.toList
def nsigns : List Nat := ("abcdefghijklmnopqrstuvwxyz0123456789" : Str).cps.toList
def nmB (s : Str) : Bool := decide (1 ≤ s.length) && decide (s.length ≤ 8) && decide (s.cps.toList.headD 0 ∈ letters) && s.cps.toList.all fun c => decide (c ∈ nsigns)

abbrev At := Str × Str
def At.d (p : At) : D := .tup [.str p.1, .str p.2]
def atD (ats : List At) : D := .tup (ats.map At.d)
def asc : List At → Bool
  | p :: q :: r => decide (p.1.cps.toList < q.1.cps.toList) && asc (q :: r)
  | _ => true
def atB (ats : List At) : Bool := decide (ats.length ≤ 8) && ((ats.all fun p => nmB p.1 && p.2.cps.toList.all sgB) && asc ats)
theorem asc_ix : ∀ (ats : List At), ((List.range (ats.length - 1)).all fun k => match ats[k]?, ats[k + 1]? with
    | some p, some q => decide (p.1.cps.toList < q.1.cps.toList)
    | _, _ => false) = asc ats
  | [] => rfl
  | [p] => rfl
  | p :: q :: r => by
    have ih := asc_ix (q :: r)
    simp only [List.length_cons, Nat.add_sub_cancel] at ih ⊢
    rw [List.range_succ_eq_map, List.all_cons, List.all_map]
    simp only [Function.comp_def, List.getElem?_cons_succ, Nat.succ_eq_add_one] at ih ⊢
    rw [ih]
    simp [asc]

/-! events -/
inductive Ev where
  | st (nm : Str) (ats : List At)
  | ch (c : Nat)
  | en (nm : Str)
  | bad (d : D)
def Ev.d : Ev → D
  | .st nm ats => .tup [.str "start", .str nm, atD ats]
  | .ch c => .tup [.str "char", .str (ch1 c)]
  | .en nm => .tup [.str "end", .str nm]
  | .bad d => d
def Ev.ok : Ev → Bool
  | .st nm ats => nmB nm && atB ats
  | .ch c => sgB c
  | .en nm => nmB nm
  | .bad _ => false
def nmL (st : List Str) : OD := .l (st.reverse.map fun s => .v (.str s))
/-- names: the innermost first -/
def scan : Bool → List Str → List Ev → Option (List Str)
  | _, st, [] => some st
  | f, [], .st nm _ :: es => if f = true then scan false [nm] es else none
  | _, [], _ :: es => none
  | f, a :: st, .st nm _ :: es => scan false (nm :: a :: st) es
  | f, a :: st, .ch _ :: es => scan false (a :: st) es
  | f, a :: st, .en nm :: es => if a = nm then scan false st es else none
  | f, a :: st, .bad _ :: es => none
def isDoc (es : List Ev) : Bool := es.all Ev.ok && (decide (0 < es.length) && (scan true [] es).any List.isEmpty)
theorem nmL_e (st : List Str) : nmL st = .l (st.reverse.map fun s => .v (.str s)) := rfl
theorem nmL_emp (st : List Str) : (List.map D.str st.reverse).isEmpty = st.isEmpty := by cases st <;> simp
theorem doc_loop (all : List Ev) (hS : all.length ≤ 1000000) : ∀ (es pre : List Ev) (st : List Str) (o1 o3 : Option OD), all = pre ++ es → es.all Ev.ok = true → st.length + es.length ≤ 1000000 →
    ∃ ρ', zFor (.name 3) (zSeq (zSet 1 (mApp opIx [.val true (mVar 0), .val true (mVar 3)])) (zSeq (zIf (bAnd (bNot (asB (mApp opTru [.plc 2]))) (bOr (asB (mApp opGt [.val true (mVar 3), .val true (mC (.int 0))])) (asB (mApp opNe [.val true (mApp opIx [.val true (mVar 1), .val true (mC (.int 0))]), .val true (mC (.str "start"))])))) (zRet (mC (.bl false))) zNext) (zIf (asB (mApp opEq [.val true (mApp opIx [.val true (mVar 1), .val true (mC (.int 0))]), .val true (mC (.str "start"))])) (zApp 2 (mApp opIx [.val true (mVar 1), .val true (mC (.int 1))])) (zIf (asB (mApp opEq [.val true (mApp opIx [.val true (mVar 1), .val true (mC (.int 0))]), .val true (mC (.str "end"))])) (zIf (asB (mApp opNe [.val false (mPop 2 []), .val true (mApp opIx [.val true (mVar 1), .val true (mC (.int 1))])])) (zRet (mC (.bl false))) zNext) zNext)))) ((List.range' pre.length es.length).map fun (k : Nat) => D.int (k : Int)) [some (.v (.lst (all.map Ev.d))), o1, some (nmL st), o3] =
      .ok (match scan pre.isEmpty st es with | some _ => .nx | none => .rt (.v (.bl false))) ρ' ∧ (∀ st', scan pre.isEmpty st es = some st' → ∃ p1 p3, ρ' = [some (.v (.lst (all.map Ev.d))), p1, some (nmL st'), p3]) ∧ ∃ p1 p2 p3, ρ' = [some (.v (.lst (all.map Ev.d))), p1, p2, p3]
  | [], pre, st, o1, o3, _, _, _ => ⟨[some (.v (.lst (all.map Ev.d))), o1, some (nmL st), o3], by simp [scan, zFor_nil], fun st' h => by simp [scan] at h; subst h; exact ⟨_, _, rfl⟩, ⟨_, _, _, rfl⟩⟩
  | e :: es, pre, st, o1, o3, ha, hok, hl => by
    have hat : (all.map Ev.d)[pre.length]? = some e.d := by rw [ha]; simp
    have hok2 : e.ok = true ∧ es.all Ev.ok = true := by simpa using hok
    have hne : (pre ++ [e]).isEmpty = false := by simp
    have hr : List.range' pre.length (e :: es).length = pre.length :: List.range' (pre ++ [e]).length es.length := by
      simp [List.range'_succ]
    have ih := fun st o1 o3 hl => doc_loop all hS es (pre ++ [e]) st o1 o3 (by rw [ha]; simp) hok2.2 hl
    rw [hne] at ih
    rw [hr, List.map_cons, zFor_cons]
    have hp : (0 : Int) < (pre.length : Int) ↔ pre.isEmpty = false := by cases pre <;> simp
    cases st with
    | nil =>
      cases e with
      | st nm ats =>
        cases hf : pre.isEmpty with
        | false =>
          have hp' : (0 : Int) < (pre.length : Int) := hp.2 hf
          refine ⟨[some (.v (.lst (all.map Ev.d))), some (.v (Ev.st nm ats).d), some (nmL []), some (.v (.int pre.length))], ?_, fun st' h => by simp [scan] at h, ⟨_, _, _, rfl⟩⟩
          unfold nmL
          simp only [scan]
          simp! only [hat, hp', Ev.d, List.reverse_nil, List.isEmpty_nil, forS_some]
        | true =>
          have hp' : ¬ (0 : Int) < (pre.length : Int) := by rw [hp, hf]; simp
          obtain ⟨ρ', e1, h1, h2⟩ := ih [nm] (some (.v (Ev.st nm ats).d)) (some (.v (.int pre.length))) (by simp at hl ⊢; omega)
          refine ⟨ρ', ?_, by simpa [scan] using h1, h2⟩
          simp only [scan, if_true]
          rw [← e1]
          unfold nmL
          simp! only [hat, hp', Ev.d, List.reverse_nil, List.isEmpty_nil, forS_some, List.length_nil, appL_l (show ([] : List OD).length < sizeLine from by decide)]
          rfl
      | ch c =>
        refine ⟨[some (.v (.lst (all.map Ev.d))), some (.v (Ev.ch c).d), some (nmL []), some (.v (.int pre.length))], ?_, fun st' h => by cases pre.isEmpty <;> simp [scan] at h, ⟨_, _, _, rfl⟩⟩
        unfold nmL
        cases hf : pre.isEmpty with
        | false =>
          have hp' : (0 : Int) < (pre.length : Int) := hp.2 hf
          simp only [scan]
          simp! only [hat, hp', Ev.d, List.reverse_nil, List.isEmpty_nil, forS_some]
        | true =>
          have hp' : ¬ (0 : Int) < (pre.length : Int) := by rw [hp, hf]; simp
          simp only [scan]
          simp! only [hat, hp', Ev.d, List.reverse_nil, List.isEmpty_nil, forS_some, show (("char" : Str) = "start") = False by decide]
      | en nm =>
        refine ⟨[some (.v (.lst (all.map Ev.d))), some (.v (Ev.en nm).d), some (nmL []), some (.v (.int pre.length))], ?_, fun st' h => by cases pre.isEmpty <;> simp [scan] at h, ⟨_, _, _, rfl⟩⟩
        unfold nmL
        cases hf : pre.isEmpty with
        | false =>
          have hp' : (0 : Int) < (pre.length : Int) := hp.2 hf
          simp only [scan]
          simp! only [hat, hp', Ev.d, List.reverse_nil, List.isEmpty_nil, forS_some]
        | true =>
          have hp' : ¬ (0 : Int) < (pre.length : Int) := by rw [hp, hf]; simp
          simp only [scan]
          simp! only [hat, hp', Ev.d, List.reverse_nil, List.isEmpty_nil, forS_some, show (("end" : Str) = "start") = False by decide]
      | bad d => simp [Ev.ok] at hok2
    | cons a st =>
      have hb : (List.map D.str (List.reverse (a :: st))).isEmpty = false := by simp
      cases e with
      | st nm ats =>
        obtain ⟨ρ', e1, h1, h2⟩ := ih (nm :: a :: st) (some (.v (Ev.st nm ats).d)) (some (.v (.int pre.length))) (by simp at hl ⊢; omega)
        refine ⟨ρ', ?_, by simpa [scan] using h1, h2⟩
        simp only [scan]
        rw [← e1]
        unfold nmL
        simp! only [hat, Ev.d, hb, forS_some, appL_l (show (List.map (fun s => OD.v (D.str s)) (a :: st).reverse).length < sizeLine from small_line' (by simp at hl ⊢; omega))]
        simp
      | ch c =>
        obtain ⟨ρ', e1, h1, h2⟩ := ih (a :: st) (some (.v (Ev.ch c).d)) (some (.v (.int pre.length))) (by simp at hl ⊢; omega)
        refine ⟨ρ', ?_, by simpa [scan] using h1, h2⟩
        simp only [scan]
        rw [← e1]
        unfold nmL
        simp! only [hat, Ev.d, hb, forS_some, show (("char" : Str) = "start") = False by decide, show (("char" : Str) = "end") = False by decide]
      | en nm =>
        have hsn : (List.map (fun s => OD.v (D.str s)) (a :: st).reverse) = (List.map (fun s => OD.v (D.str s)) st.reverse) ++ [.v (.str a)] := by simp
        have hs2 : OD.shs ((List.map (fun s => OD.v (D.str s)) st.reverse) ++ [.v (.str a)]) = some (List.map D.str (a :: st).reverse) := by rw [← hsn]; exact shs_mapf _ _
        by_cases hn : a = nm
        · subst hn
          obtain ⟨ρ', e1, h1, h2⟩ := ih st (some (.v (Ev.en a).d)) (some (.v (.int pre.length))) (by simp at hl ⊢; omega)
          refine ⟨ρ', ?_, by simpa [scan] using h1, h2⟩
          simp only [scan, if_true]
          rw [← e1]
          unfold nmL
          simp! only [hat, Ev.d, hb, forS_some, show (("end" : Str) = "start") = False by decide, hsn, hs2]
        · refine ⟨[some (.v (.lst (all.map Ev.d))), some (.v (Ev.en nm).d), some (nmL st), some (.v (.int pre.length))], ?_, fun st' h => by simp [scan, hn] at h, ⟨_, _, _, rfl⟩⟩
          simp only [scan, hn, if_false]
          unfold nmL
          simp! only [hat, Ev.d, hb, forS_some, show (("end" : Str) = "start") = False by decide, hsn, hs2, hn]
      | bad d => simp [Ev.ok] at hok2


/-! trees -/
inductive T where
  | sg (c : Nat)
  | nd (nm : Str) (ats : List At) (ch : List T)
mutual
def T.d : T → D
  | .sg c => .str (ch1 c)
  | .nd nm ats ch => .tup [.str nm, atD ats, .tup (T.ds ch)]
def T.ds : List T → List D
  | [] => []
  | t :: ts => t.d :: T.ds ts
end
mutual
def T.ev : T → List Ev
  | .sg c => [.ch c]
  | .nd nm ats ch => .st nm ats :: (T.evs ch ++ [.en nm])
def T.evs : List T → List Ev
  | [] => []
  | t :: ts => t.ev ++ T.evs ts
end
mutual
def T.dep : T → Nat
  | .sg _ => 0
  | .nd _ _ ch => T.deps ch + 1
def T.deps : List T → Nat
  | [] => 0
  | t :: ts => max t.dep (T.deps ts)
end
mutual
def T.wf : T → Prop
  | .sg c => sgB c = true
  | .nd nm ats ch => nmB nm = true ∧ atB ats = true ∧ (∀ p ∈ ats, p.2.length ≤ 1000) ∧ T.wfs ch
def T.wfs : List T → Prop
  | [] => True
  | t :: ts => t.wf ∧ T.wfs ts
end
theorem nmB_len {s : Str} (h : nmB s = true) : 1 ≤ s.length ∧ s.length ≤ 8 := by
  unfold nmB at h
  simp only [Bool.and_eq_true, decide_eq_true_eq] at h
  exact ⟨h.1.1.1, h.1.1.2⟩
theorem nmB_line {s : Str} (h : nmB s = true) : s.length ≤ sizeLine := small_line (by have := nmB_len h; omega)
theorem atB_nm {ats : List At} (h : atB ats = true) : ats.length ≤ 8 ∧ ∀ p ∈ ats, nmB p.1 = true := by
  unfold atB at h
  simp only [Bool.and_eq_true, decide_eq_true_eq, List.all_eq_true] at h
  exact ⟨h.1, fun p hp => (h.2.1 p hp).1⟩
theorem atB_line {ats : List At} (h : atB ats = true) (h2 : ∀ p ∈ ats, p.2.length ≤ 1000) : ∀ p ∈ ats, p.1.length ≤ sizeLine ∧ p.2.length ≤ sizeLine := fun p hp => ⟨nmB_line ((atB_nm h).2 p hp), small_line (by have := h2 p hp; omega)⟩
theorem wfs_mem : ∀ {ts : List T}, T.wfs ts → ∀ t ∈ ts, t.wf
  | [], _, t, h => by simp at h
  | a :: ts, h, t, ht => by
    simp only [T.wfs] at h
    rcases List.mem_cons.mp ht with rfl | ht
    · exact h.1
    · exact wfs_mem h.2 t ht
theorem deps_mem : ∀ {ts : List T}, ∀ t ∈ ts, t.dep ≤ T.deps ts
  | [], t, h => by simp at h
  | a :: ts, t, ht => by
    simp only [T.deps]
    rcases List.mem_cons.mp ht with rfl | ht
    · omega
    · have := deps_mem t ht; omega
theorem ds_map : ∀ ts : List T, T.ds ts = ts.map T.d
  | [] => rfl
  | t :: ts => by simp [T.ds, ds_map ts]
theorem ev_len (t : T) : 1 ≤ t.ev.length := by
  cases t <;> simp [T.ev]
theorem Ev_st (nm : Str) (ats : List At) : (Ev.st nm ats).d = .tup [.str "start", .str nm, atD ats] := nr rfl
theorem Ev_ch (c : Nat) : (Ev.ch c).d = .tup [.str "char", .str (ch1 c)] := nr rfl
theorem Ev_en (nm : Str) : (Ev.en nm).d = .tup [.str "end", .str nm] := nr rfl
/-! events_of -/
theorem ev_loop (R : FnM) (td : D) : ∀ (ch : List T) (acc : List Ev) (o : Option OD), (∀ t ∈ ch, ∀ nm ats cs, t = .nd nm ats cs → R [.v t.d] = .ok (.l (t.ev.map fun e => .v e.d)) [none]) → acc.length + (T.evs ch).length ≤ 500000 →
    ∃ o', zFor (.name 2) (zIf (asB (mApp (opIsi "str") [.val true (mVar 2)])) (zApp 1 (mTup [.val true (mC (.str "char")), .val true (mVar 2)])) (zSet 1 (mApp opAdd [.plc 1, .val true (mCall R [.val true (mVar 2)])]))) (T.ds ch) [some (.v td), some (.l (acc.map fun e => .v e.d)), o] = .ok .nx [some (.v td), some (.l ((acc ++ T.evs ch).map fun e => .v e.d)), o']
  | [], acc, o, _, _ => ⟨o, by simp [T.ds, T.evs, zFor_nil]⟩
  | t :: ch, acc, o, h, hl => by
    have hl1 : acc.length + (t.ev.length + (T.evs ch).length) ≤ 500000 := by simpa [T.evs] using hl
    have h1 := ev_len t
    obtain ⟨o', e1⟩ := ev_loop R td ch (acc ++ t.ev) (some (.v t.d)) (fun t' ht => h t' (List.mem_cons_of_mem _ ht)) (by simp; omega)
    refine ⟨o', ?_⟩
    simp only [T.ds, T.evs]
    rw [zFor_cons]
    rw [List.append_assoc] at e1
    rw [← e1]
    cases t with
    | sg c =>
      simp only [T.d, T.ev]
      simp! only [forS_some, appL_l (show (List.map (fun e => OD.v (Ev.d e)) acc).length < sizeLine from small_line' (by simp; omega))]
      simp [Ev.d]
    | nd nm ats cs =>
      have hR := h _ List.mem_cons_self nm ats cs rfl
      have hd : (T.nd nm ats cs).d = .tup [.str nm, atD ats, .tup (T.ds cs)] := by simp only [T.d]
      rw [hd] at hR ⊢
      have ha : opAdd [.lst (acc.map Ev.d), .lst ((T.nd nm ats cs).ev.map Ev.d)] = some (.l ((acc ++ (T.nd nm ats cs).ev).map fun e => .v e.d)) := by
        rw [opAdd_lst (small_line (by simp only [List.length_map]; omega)), ← List.map_append, List.map_map]; rfl
      simp! only [forS_some, hR, ha]
theorem evs_mem : ∀ (ch : List T), ∀ t ∈ ch, t.ev.length ≤ (T.evs ch).length
  | [], t, ht => by simp at ht
  | a :: ch, t, ht => by
    simp only [T.evs, List.length_append]
    rcases List.mem_cons.mp ht with rfl | ht
    · omega
    · have := evs_mem ch t ht; omega
theorem evs_count : ∀ (ch : List T), ch.length ≤ (T.evs ch).length
  | [] => by simp
  | a :: ch => by
    have := ev_len a
    have := evs_count ch
    simp only [T.evs, List.length_append, List.length_cons]
    omega
theorem T_d_nd (nm : Str) (ats : List At) (ch : List T) : (T.nd nm ats ch).d = .tup [.str nm, atD ats, .tup (ch.map T.d)] := by
  simp only [T.d, ds_map]
/-! tree_of -/
theorem ixN_last (n : Nat) : ixN (n + 1) (-1) = some n := by
  unfold ixN
  rw [if_neg (by omega), if_pos (by omega)]
  congr 1
  omega
theorem at_last (xs : List OD) (x : OD) : OD.at [.ix (-1)] (.l (xs ++ [x])) = some x := by
  simp [OD.at, ixN_last]
theorem put_last (xs : List OD) (x y : OD) : OD.putAt [.ix (-1)] (.l (xs ++ [x])) y = some (.l (xs ++ [y])) := by
  simp [OD.putAt, ixN_last]

abbrev tofBody : SM := (zIf (asB (mApp opEq [.val true (mApp opIx [.val true (mVar 3), .val true (mC (.int 0))]), .val true (mC (.str "start"))])) (zSeq (zApp 2 (mVar 3)) (zApp 1 (mLst []))) (zIf (asB (mApp opEq [.val true (mApp opIx [.val true (mVar 3), .val true (mC (.int 0))]), .val true (mC (.str "char"))])) (zAppP 1 [.ix (-1)] (mApp opIx [.val true (mVar 3), .val true (mC (.int 1))])) (zSeq (zSet 4 (mApp opTuple [.val false (mPop 1 [])])) (zSeq (zSet 5 (mFz (mPop 2 []))) (zAppP 1 [.ix (-1)] (mTup [.val true (mApp opIx [.val true (mVar 5), .val true (mC (.int 1))]), .val true (mApp opIx [.val true (mVar 5), .val true (mC (.int 2))]), .val true (mVar 4)]))))))
def tofE (doc : D) (RS : List OD) (row S : List D) (e c s : Option OD) : Vs.Env := [some (.v doc), some (.l (RS ++ [.l (row.map .v)])), some (.l (S.map .v)), e, c, s]
mutual
theorem tof_ev (doc : D) : ∀ (t : T) (rest : List D) (RS : List OD) (row S : List D) (e c s : Option OD), RS.length + row.length + S.length + t.ev.length ≤ 500000 →
    ∃ e' c' s', zFor (.name 3) tofBody (t.ev.map Ev.d ++ rest) (tofE doc RS row S e c s) = zFor (.name 3) tofBody rest (tofE doc RS (row ++ [t.d]) S e' c' s')
  | .sg g, rest, RS, row, S, e, c, s, hl => by
    refine ⟨some (.v (Ev.ch g).d), c, s, ?_⟩
    simp only [T.ev, T.d, List.map_cons, List.map_nil, List.cons_append, List.nil_append]
    rw [zFor_cons]
    unfold tofE
    have h1 : List.map OD.v (row ++ [D.str (ch1 g)]) = List.map OD.v row ++ [.v (.str (ch1 g))] := by simp
    simp! only [forS_some, Ev_ch, show (("char" : Str) = "start") = False by decide, at_last, appPP_at (at_last RS (.l (row.map OD.v))) (put_last RS (.l (row.map OD.v)) (.l (row.map OD.v ++ [.v (.str (ch1 g))]))) (small_line' (by simp [T.ev] at hl ⊢; omega)), h1]
  | .nd nm ats ch, rest, RS, row, S, e, c, s, hl => by
    have hl2 : RS.length + row.length + S.length + ((T.evs ch).length + 2) ≤ 500000 := by simp [T.ev] at hl; omega
    obtain ⟨e1, c1, s1, q1⟩ := tof_evs doc ch ((Ev.en nm).d :: rest) (RS ++ [.l (row.map .v)]) [] (S ++ [(Ev.st nm ats).d]) (some (.v (Ev.st nm ats).d)) c s (by simp; omega)
    refine ⟨some (.v (Ev.en nm).d), some (.v (.tup (T.ds ch))), some (.v (Ev.st nm ats).d), ?_⟩
    have e0 : (T.nd nm ats ch).ev.map Ev.d ++ rest = (Ev.st nm ats).d :: ((T.evs ch).map Ev.d ++ ((Ev.en nm).d :: rest)) := by simp [T.ev]
    rw [e0, zFor_cons]
    have h1 : List.map OD.v (S ++ [(Ev.st nm ats).d]) = List.map OD.v S ++ [.v (Ev.st nm ats).d] := by simp
    have step1 : forS ((Tgt.name 3).put (Ev.st nm ats).d (tofE doc RS row S e c s)) tofBody (zLoop (zFor (.name 3) tofBody ((T.evs ch).map Ev.d ++ ((Ev.en nm).d :: rest)))) = zFor (.name 3) tofBody ((T.evs ch).map Ev.d ++ ((Ev.en nm).d :: rest)) (tofE doc (RS ++ [.l (row.map .v)]) [] (S ++ [(Ev.st nm ats).d]) (some (.v (Ev.st nm ats).d)) c s) := by
      unfold tofE
      rw [h1]
      simp! only [forS_some, Ev_st, appL_l (show (S.map OD.v).length < sizeLine from small_line' (by simp; omega)), appL_l (show (RS ++ [OD.l (row.map OD.v)]).length < sizeLine from small_line' (by simp; omega))]
    rw [step1, q1]
    simp only [List.nil_append]
    rw [zFor_cons]
    have h2 : List.map OD.v (row ++ [(T.nd nm ats ch).d]) = List.map OD.v row ++ [.v (.tup [.str nm, atD ats, .tup (T.ds ch)])] := by simp [T.d]
    unfold tofE
    rw [h1, h2]
    simp! only [forS_some, Ev_en, Ev_st, show (("end" : Str) = "start") = False by decide, show (("end" : Str) = "char") = False by decide, at_last, appPP_at (at_last RS (.l (row.map OD.v))) (put_last RS (.l (row.map OD.v)) (.l (row.map OD.v ++ [.v (.tup [.str nm, atD ats, .tup (T.ds ch)])]))) (small_line' (by simp; omega))]
theorem tof_evs (doc : D) : ∀ (ts : List T) (rest : List D) (RS : List OD) (row S : List D) (e c s : Option OD), RS.length + row.length + S.length + (T.evs ts).length ≤ 500000 →
    ∃ e' c' s', zFor (.name 3) tofBody ((T.evs ts).map Ev.d ++ rest) (tofE doc RS row S e c s) = zFor (.name 3) tofBody rest (tofE doc RS (row ++ T.ds ts) S e' c' s')
  | [], rest, RS, row, S, e, c, s, hl => ⟨e, c, s, by simp [T.evs, T.ds]⟩
  | t :: ts, rest, RS, row, S, e, c, s, hl => by
    have h1 := ev_len t
    have hl2 : RS.length + row.length + S.length + (t.ev.length + (T.evs ts).length) ≤ 500000 := by simpa [T.evs] using hl
    obtain ⟨e1, c1, s1, q1⟩ := tof_ev doc t ((T.evs ts).map Ev.d ++ rest) RS row S e c s (by omega)
    obtain ⟨e2, c2, s2, q2⟩ := tof_evs doc ts rest RS (row ++ [t.d]) S e1 c1 s1 (by simp; omega)
    refine ⟨e2, c2, s2, ?_⟩
    rw [List.append_assoc] at q2
    simp only [T.evs, T.ds, List.map_append, List.append_assoc]
    rw [q1, q2]
    rfl
end
/-! no exception within -/
theorem nxs_all : ∀ {ds : List D}, (∀ d ∈ ds, d.nx = true) → D.nxs ds = true
  | [], _ => rfl
  | d :: ds, h => by
    simp only [D.nxs, h d List.mem_cons_self, nxs_all fun x hx => h x (List.mem_cons_of_mem _ hx), Bool.and_self]
theorem nx_lst {ds : List D} (h : ∀ d ∈ ds, d.nx = true) : (D.lst ds).nx = true := nxs_all h
theorem nx_tup {ds : List D} (h : ∀ d ∈ ds, d.nx = true) : (D.tup ds).nx = true := nxs_all h
def Ev.nx : Ev → Prop
  | .bad d => d.nx = true
  | _ => True
theorem at_nx (ats : List At) : (atD ats).nx = true := nx_tup fun d hd => by
  obtain ⟨p, _, rfl⟩ := List.mem_map.mp hd
  rfl
theorem ev_nx (e : Ev) (h : e.nx) : e.d.nx = true := by
  cases e with
  | st nm ats =>
    exact nx_tup fun d hd => by
      simp only [List.mem_cons, List.not_mem_nil, or_false] at hd
      rcases hd with rfl | rfl | rfl
      · rfl
      · rfl
      · exact at_nx ats
  | ch c => rfl
  | en nm => rfl
  | bad d => exact h


/-! draws -/
def Wd (t : List Int) (n : Nat) : OD := .l [.v (.lst (t.map .int)), .v (.int n)]
theorem law_at_ex (t : List Int) (k : Nat) : ∃ x : Int, F__law_at [.v (.lst (t.map .int)), .v (.int k)] = .ok (.v (.int x)) [none, none] := by
  unfold F__law_at m__law_at
  by_cases h : k < t.length
  · have h2 : (k : Int) < t.length := by omega
    have h3 : (t.map D.int)[k]? = some (.int t[k]) := by rw [List.getElem?_map, List.getElem?_eq_getElem h]; rfl
    refine ⟨t[k], ?_⟩
    simp! only [List.length_map, h, h2, h3]
  · have h2 : ¬ (k : Int) < t.length := by omega
    refine ⟨0, ?_⟩
    simp! only [List.length_map, h, h2]
theorem pick_ex (t : List Int) (n : Nat) (m : Nat) (hn : n < 1000000000) (h0 : 0 < m) : ∃ r : Nat, r < m ∧ F__law_pick [Wd t n, .v (.int m)] = .ok (.v (.int r)) [some (Wd t (n + 1)), none] := by
  obtain ⟨x, e1⟩ := law_at_ex t ((n + 1) % 200)
  obtain ⟨y, e2⟩ := law_at_ex t 1
  have c1 : (n : Int) + 1 = ((n + 1 : Nat) : Int) := by omega
  have c2 : ((n + 1 : Nat) : Int).fmod 200 = (((n + 1) % 200 : Nat) : Int) := by
    rw [Int.fmod_eq_emod_of_nonneg _ (by omega)]; omega
  have hm : (0 : Int) < (m : Int) := by omega
  have hb1 : -18446744073709551616 < ((n + 1 : Nat) : Int) := by omega
  have hb2 : ((n + 1 : Nat) : Int) < 18446744073709551616 := by omega
  obtain ⟨r, hr⟩ := Int.eq_ofNat_of_zero_le (Int.fmod_nonneg_of_pos (x * 31 + ((n + 1 : Nat) : Int) * ((n + 1 : Nat) : Int) + y) hm)
  have hlt := Int.fmod_lt_of_pos (x * 31 + ((n + 1 : Nat) : Int) * ((n + 1 : Nat) : Int) + y) hm
  rw [hr] at hlt
  refine ⟨r, by omega, ?_⟩
  unfold F__law_pick m__law_pick Wd
  have e2' : F__law_at [.v (.lst (t.map .int)), .v (.int 1)] = .ok (.v (.int y)) [none, none] := e2
  simp! only [c1, c2, e1, e2', hm, hb1, hb2, hr]
/-- a draw -/
noncomputable def pk (t : List Int) (n m : Nat) : Nat := by
  classical exact if h : n < 1000000000 ∧ 0 < m then Classical.choose (pick_ex t n m h.1 h.2) else 0
theorem pk_lt {t : List Int} {n m : Nat} (hn : n < 1000000000) (h0 : 0 < m) : pk t n m < m := by
  unfold pk
  rw [dif_pos ⟨hn, h0⟩]
  exact (Classical.choose_spec (pick_ex t n m hn h0)).1
theorem pk_e {t : List Int} {n m : Nat} (hn : n < 1000000000) (h0 : 0 < m) : F__law_pick [Wd t n, .v (.int m)] = .ok (.v (.int (pk t n m))) [some (Wd t (n + 1)), none] := by
  unfold pk
  rw [dif_pos ⟨hn, h0⟩]
  exact (Classical.choose_spec (pick_ex t n m hn h0)).2


theorem join_nil (ys : List Str) : (Txt.join "" ys).cps.toList = ys.flatMap fun y => y.cps.toList := by
  rw [TL.join_eq]
  show TL.tl (Str.join "" ys) = _
  rw [TL.tl_join]
  have : ∀ ps : List (List Nat), TL.joinL (TL.tl "") ps = ps.flatten := fun ps => by
    induction ps with
    | nil => rfl
    | cons p r ih =>
      cases r with
      | nil => simp [TL.joinL]
      | cons q r =>
        show p ++ (TL.tl "" ++ TL.joinL (TL.tl "") (q :: r)) = _
        rw [ih]
        simp [show TL.tl "" = [] from rfl]
  rw [this]
  simp [List.flatMap]
theorem str_ext {a b : Str} (h : a.cps.toList = b.cps.toList) : a = b := by
  cases a; cases b
  congr 1
  exact Array.ext' h
theorem str_len (s : Str) : s.length = s.cps.toList.length := by show s.cps.size = _; simp
/-- a row of single signs, joined -/
theorem join_1 (cs : List Nat) : (Txt.join "" (cs.map ch1)).cps.toList = cs := by
  rw [join_nil, List.flatMap_map]
  induction cs with
  | nil => rfl
  | cons c cs ih => simp only [List.flatMap_cons, ih]; rfl
theorem cs_of {P : Nat → Prop} : ∀ {out : List D}, (∀ d ∈ out, ∃ c, d = .str (ch1 c) ∧ P c) → ∃ cs : List Nat, out = (cs.map ch1).map .str ∧ ∀ c ∈ cs, P c
  | [], _ => ⟨[], rfl, by simp⟩
  | d :: out, h => by
    obtain ⟨c, rfl, hc⟩ := h d List.mem_cons_self
    obtain ⟨cs, rfl, hcs⟩ := cs_of fun x hx => h x (List.mem_cons_of_mem _ hx)
    refine ⟨c :: cs, rfl, fun x hx => ?_⟩
    rcases List.mem_cons.mp hx with rfl | hx
    · exact hc
    · exact hcs x hx
theorem sum_ch1 (cs : List Nat) : ((cs.map ch1).map fun s : Str => s.length).sum = cs.length := by
  induction cs with
  | nil => rfl
  | cons c cs ih =>
    simp only [List.map_cons, List.sum_cons, ih, List.length_cons]
    show 1 + cs.length = _
    omega
def SG : Str := "ab<&>\" '-!/=x\n\t]1Z~"
theorem SG_ok : ((List.range 18).all fun k => match SG.cps.toList[k]? with
    | some c => sgB c
    | none => false) = true := by decide +kernel
theorem SG_at {k : Nat} (h : k < 18) : ∃ c, opIx [.str SG, .int k] = some (.v (.str (ch1 c))) ∧ sgB c = true := by
  have h1 := List.all_eq_true.mp SG_ok k (List.mem_range.mpr h)
  cases q : SG.cps.toList[k]? with
  | none => rw [q] at h1; cases h1
  | some c =>
    rw [q] at h1
    refine ⟨c, ?_, h1⟩
    rw [opIx_str (by decide +kernel), atI_ofNat, q]; rfl
/-! sorted(d.items()) of texts -/
def atPy (p : At) : PyData := .tuple [.str p.1, .str p.2]
theorem atPy_lt {p q : At} (h : q.1 ≠ p.1) : PySem.W.dataLt (atPy q) (atPy p) = decide (q.1.cps.toList < p.1.cps.toList) := by
  unfold atPy
  rw [PySem.W.dataLt_pair (by simp [PySem.W.alike]) (by simp [PySem.W.alike])]
  rw [if_neg (by simp [PyData.eqv, h]), PySem.W.dataLt_str]
theorem lex_ne {a b : List Nat} (h : ¬ b < a) (hn : a ≠ b) : a < b := by
  apply Classical.byContradiction
  intro h2
  exact hn (List.le_antisymm (List.not_lt.mp h) (List.not_lt.mp h2))
theorem asc_of : ∀ {ats : List At}, ats.Pairwise (fun a b => PySem.W.dataLe false atPy a b = true) → (ats.map (·.1)).Nodup → asc ats = true
  | [], _, _ => rfl
  | [_], _, _ => rfl
  | p :: q :: r, h, hn => by
    have h1 := List.pairwise_cons.mp h
    have n1 := List.nodup_cons.mp hn
    have hle := h1.1 q List.mem_cons_self
    have hne : q.1 ≠ p.1 := fun e => n1.1 (by simp only [← e]; simp)
    rw [PySem.W.dataLe_eq] at hle
    simp only [cond_false] at hle
    rw [atPy_lt hne] at hle
    have hlt : ¬ (q.1.cps.toList < p.1.cps.toList) := by simpa using hle
    have := lex_ne hlt fun e => hne (str_ext e.symm)
    simp only [asc, this, decide_true, Bool.true_and]
    exact asc_of h1.2 n1.2
theorem toPys_strs : ∀ (kvs : List At), toPys (kvs.map fun p => D.str p.2) = some (kvs.map fun p => PyData.str p.2)
  | [] => rfl
  | p :: kvs => by simp [toPys, toPy, toPys_strs kvs]
theorem zip_strs : ∀ (kvs : List At), ((kvs.map fun p => (Sum.inr p.1 : Key)).zip (kvs.map fun p => D.str p.2)).zip (kvs.map fun p => PyData.str p.2) = kvs.map fun p => (((Sum.inr p.1 : Key), D.str p.2), PyData.str p.2)
  | [] => rfl
  | p :: kvs => by simp [zip_strs kvs]
theorem sort_items (kvs : List At) (hn : (kvs.map (·.1)).Nodup) (hl : kvs.length ≤ 1000000) : ∃ ats : List At, ats.Perm kvs ∧ asc ats = true ∧ opSortIt [.dk (kvs.map fun p => .inr p.1) (kvs.map fun p => .str p.2)] = some (.l ((ats.map At.d).map .v)) := by
  have pw := PySem.W.sort_pairwise (PySem.W.sortLe_total (PyProof.Rows.listOrd PyProof.Rows.itemOrd) false fun p : At => PySem.W.keyToks (atPy p)) kvs
  have pm : (kvs.mergeSort (PySem.W.dataLe false atPy)).Perm kvs := List.mergeSort_perm _ _
  refine ⟨kvs.mergeSort (PySem.W.dataLe false atPy), pm, asc_of pw ((pm.map (·.1)).nodup_iff.mpr hn), ?_⟩
  have hok : okSort ((kvs.map fun p => (((Sum.inr p.1 : Key), D.str p.2), PyData.str p.2)).map pairPyD) = true := by
    unfold okSort
    simp only [List.map_map, Bool.and_eq_true, Bool.or_eq_true, List.all_eq_true, decide_eq_true_eq]
    refine ⟨fun x hx y hy => ?_, .inl fun x hx => ?_, fun x hx => ?_⟩
    · obtain ⟨a, _, rfl⟩ := List.mem_map.mp hx
      obtain ⟨b, _, rfl⟩ := List.mem_map.mp hy
      simp [pairPyD, kPy, PySem.W.alike, PySem.W.alikeAll]
    · obtain ⟨a, _, rfl⟩ := List.mem_map.mp hx
      simp [pairPyD]
    · obtain ⟨a, _, rfl⟩ := List.mem_map.mp hx
      simp [pairPyD, kPy, PyData.depth, PyData.depthAll]
  show ((toPys (kvs.map fun p => D.str p.2)).bind fun ps => if okSort ((((kvs.map fun p => (Sum.inr p.1 : Key)).zip (kvs.map fun p => D.str p.2)).zip ps).map pairPyD) = true ∧ (kvs.map fun p => (Sum.inr p.1 : Key)).length = (kvs.map fun p => D.str p.2).length ∧ (kvs.map fun p => (Sum.inr p.1 : Key)).length ≤ sizeLine then some (OD.l ((sortItD (kvs.map fun p => (Sum.inr p.1 : Key)) (kvs.map fun p => D.str p.2) ps).map .v)) else none) = _
  rw [toPys_strs]
  simp only [Option.bind_some]
  rw [zip_strs, if_pos ⟨hok, by simp, by rw [List.length_map]; exact small_line hl⟩]
  congr 3
  unfold sortItD
  rw [zip_strs]
  have e := List.map_mergeSort (f := fun p : At => (((Sum.inr p.1 : Key), D.str p.2), PyData.str p.2)) (l := kvs) (r := PySem.W.dataLe false atPy) (s := PySem.W.dataLe false pairPyD) fun _ _ _ _ => rfl
  rw [← e, List.map_map]
  rfl
/-! d[k] = v -/
def putA (kvs : List At) (s v : Str) : List At := if s ∈ kvs.map (·.1) then kvs.map (fun p => if p.1 = s then (p.1, v) else p) else kvs ++ [(s, v)]
theorem hasK_map (kvs : List At) (s : Str) : hasK (kvs.map fun p => (Sum.inr p.1 : Key)) (.inr s) = decide (s ∈ kvs.map (·.1)) := by
  unfold hasK
  induction kvs with
  | nil => rfl
  | cons p kvs ih =>
    simp only [List.map_cons, List.any_cons, ih, List.mem_cons]
    by_cases h : p.1 = s
    · simp [h]
    · have h1 : ¬ ((Sum.inr p.1 : Key) = Sum.inr s) := fun e => h (Sum.inr.inj e)
      have h2 : ¬ s = p.1 := fun e => h e.symm
      simp [h1, h2]
theorem repK_map (kvs : List At) (s v : Str) : repK (.inr s) (.str v) (kvs.map fun p => (Sum.inr p.1 : Key)) (kvs.map fun p => D.str p.2) = (kvs.map (fun p => if p.1 = s then (p.1, v) else p)).map fun p => D.str p.2 := by
  induction kvs with
  | nil => rfl
  | cons p kvs ih =>
    simp only [List.map_cons, repK, ih]
    congr 1
    by_cases h : p.1 = s
    · simp [h]
    · have h1 : ¬ ((Sum.inr p.1 : Key) = Sum.inr s) := fun e => h (Sum.inr.inj e)
      simp [h, h1]
theorem rep_keys (kvs : List At) (s v : Str) : (kvs.map (fun p => if p.1 = s then (p.1, v) else p)).map (·.1) = kvs.map (·.1) := by
  rw [List.map_map]
  apply List.map_congr_left
  intro p _
  by_cases h : p.1 = s <;> simp [h]
theorem putIx_at (kvs : List At) (s v : Str) (hl : kvs.length < 1000000) : putIx (.k (kvs.map fun p => .inr p.1) (kvs.map fun p => .v (.str p.2))) (.str s) (.v (.str v)) = some (.k ((putA kvs s v).map fun p => .inr p.1) ((putA kvs s v).map fun p => .v (.str p.2))) := by
  have h1 := shs_mapf (fun p : At => D.str p.2) kvs
  show ((OD.shs (kvs.map fun p => .v (.str p.2))).bind fun ds => (keyD (.str s)).bind fun k => (OD.v (.str v)).sh1.bind fun d => if (kvs.map fun p => (Sum.inr p.1 : Key)).length < sizeLine then some (OD.k (putD (kvs.map fun p => .inr p.1) ds k d).1 ((putD (kvs.map fun p => .inr p.1) ds k d).2.map .v)) else none) = _
  rw [h1]
  simp only [Option.bind_some, keyD, OD.sh1]
  rw [if_pos (by rw [List.length_map]; exact small_line' (by omega))]
  unfold putD putA
  rw [hasK_map]
  by_cases h : s ∈ kvs.map (·.1)
  · simp only [h, decide_true, if_true]
    rw [repK_map]
    congr 2
    · have := congrArg (List.map (fun x : Str => (Sum.inr x : Key))) (rep_keys kvs s v)
      rw [List.map_map, List.map_map (g := fun x : Str => (Sum.inr x : Key)) (f := fun x : At => x.1)] at this
      exact this.symm
    · rw [List.map_map]; rfl
  · simp only [h, decide_false, Bool.false_eq_true, if_false]
    simp
theorem putA_nodup {kvs : List At} {s v : Str} (h : (kvs.map (·.1)).Nodup) : ((putA kvs s v).map (·.1)).Nodup := by
  unfold putA
  split
  · rw [rep_keys]; exact h
  · rename_i hn
    rw [List.map_append]
    exact List.nodup_append.mpr ⟨h, by simp, fun a ha b hb => by
      simp only [List.map_cons, List.map_nil, List.mem_singleton] at hb
      subst hb
      exact fun e => hn (e ▸ ha)⟩
theorem putA_mem {kvs : List At} {s v : Str} {p : At} (h : p ∈ putA kvs s v) : p ∈ kvs ∨ p = (s, v) := by
  unfold putA at h
  split at h
  · obtain ⟨q, hq, e⟩ := List.mem_map.mp h
    by_cases hs : q.1 = s
    · rw [if_pos hs] at e
      exact .inr (by rw [← e, hs])
    · rw [if_neg hs] at e
      exact .inl (e ▸ hq)
  · rcases List.mem_append.mp h with h | h
    · exact .inl h
    · exact .inr (List.mem_singleton.mp h)
theorem putA_len {kvs : List At} {s v : Str} : (putA kvs s v).length ≤ kvs.length + 1 := by
  unfold putA
  split <;> simp


def nms6 : List Str := ["a", "b2", "x", "longname", "longnamf", "y"]
def nms6t : List Str := ["a", "ab", "abc", "r1", "eightlet", "z"]
theorem nms6_ok : (nms6.all nmB && nms6t.all nmB) = true := by decide +kernel
theorem nms_at (ns : List Str) (h : ns.all nmB = true) {k : Nat} (hk : k < ns.length) : ∃ s, opIx [.lst (ns.map .str), .int k] = some (.v (.str s)) ∧ nmB s = true := by
  have hg : ns[k]? = some ns[k] := List.getElem?_eq_getElem hk
  exact ⟨ns[k], opIx_lst_get (by rw [List.getElem?_map, hg]; rfl), List.all_eq_true.mp h _ (List.getElem_mem hk)⟩
/-! the drawn tree -/
def cC : Nat → Nat
  | 0 => 2000
  | k + 1 => 4 * cC k + 2000
def cE : Nat → Nat
  | 0 => 100
  | k + 1 => 4 * cE k + 100
theorem wfs_app : ∀ {a b : List T}, T.wfs a → T.wfs b → T.wfs (a ++ b)
  | [], _, _, h => h
  | x :: a, b, h, h2 => by
    simp only [T.wfs, List.cons_append] at h ⊢
    exact ⟨h.1, wfs_app h.2 h2⟩
theorem evs_app : ∀ (a b : List T), T.evs (a ++ b) = T.evs a ++ T.evs b
  | [], _ => rfl
  | x :: a, b => by simp [T.evs, evs_app a b]
theorem deps_app : ∀ (a b : List T), T.deps (a ++ b) = max (T.deps a) (T.deps b)
  | [], _ => by simp [T.deps]
  | x :: a, b => by simp only [T.deps, List.cons_append, deps_app a b]; omega
theorem ds_app (a b : List T) : T.ds (a ++ b) = T.ds a ++ T.ds b := by simp [ds_map]
theorem sg_row (cs : List Nat) (h : ∀ c ∈ cs, sgB c = true) : T.wfs (cs.map T.sg) ∧ T.deps (cs.map T.sg) = 0 ∧ (T.evs (cs.map T.sg)).length = cs.length ∧ T.ds (cs.map T.sg) = cs.map fun c => .str (ch1 c) := by
  induction cs with
  | nil => exact ⟨trivial, rfl, rfl, rfl⟩
  | cons c cs ih =>
    obtain ⟨h1, h2, h3, h4⟩ := ih fun x hx => h x (List.mem_cons_of_mem _ hx)
    refine ⟨?_, ?_, ?_, ?_⟩
    · simp only [List.map_cons, T.wfs, T.wf]
      exact ⟨h c List.mem_cons_self, h1⟩
    · simp only [List.map_cons, T.deps, T.dep, h2]; omega
    · simp only [List.map_cons, T.evs, T.ev, List.length_append, List.length_cons, List.length_nil, h3]; omega
    · simp only [List.map_cons, T.ds, T.d, h4]
def mxs (level : Nat) : Nat := if level = 0 then 5 else if level = 1 then 4 else if level = 2 then 3 else 2
/-! the tape -/
theorem tape_ex (ns : List Int) (hn : ns.length ≤ 63) : ∃ t : List Int, F__law_tape [.v (.rol (ns.map .int))] = .ok (.l ((t.map D.int).map .v)) [none] := by
  have inner1 : ∀ (o0 k : OD) (xs : List Int) (v : Int) (s0 : Option OD), xs.length ≤ 4000 → ∃ (ys : List Int) (v' : Int) (s' : Option OD), ys.length ≤ xs.length + 60 ∧ zFor (.name 4) (zIf (asB (mApp opGt [.val true (mVar 3), .val true (mC (.int 0))])) (zSeq (zApp 1 (mApp opMod [.val true (mVar 3), .val true (mC (.int 1000))])) (zSet 3 (mApp opFdv [.val true (mVar 3), .val true (mC (.int 1000))]))) zNext) (rngD 0 60) [some o0, some (.l ((xs.map D.int).map .v)), some k, some (.v (.int v)), s0] = .ok .nx [some o0, some (.l ((ys.map D.int).map .v)), some k, some (.v (.int v')), s'] := by
    intro o0 k xs v s0 hx
    obtain ⟨ρ', e, ys, v', s', h1, rfl⟩ := for_step (tg := .name 4) (f := zIf (asB (mApp opGt [.val true (mVar 3), .val true (mC (.int 0))])) (zSeq (zApp 1 (mApp opMod [.val true (mVar 3), .val true (mC (.int 1000))])) (zSet 3 (mApp opFdv [.val true (mVar 3), .val true (mC (.int 1000))]))) zNext) (I := fun ds ρ => ∃ (ys : List Int) (v' : Int) (s' : Option OD), ys.length + ds.length ≤ xs.length + 60 ∧ ρ = [some o0, some (.l ((ys.map D.int).map .v)), some k, some (.v (.int v')), s']) (fun d ds ρ i => by
      obtain ⟨ys, v', s', h1, rfl⟩ := i
      simp only [List.length_cons] at h1
      by_cases hv : 0 < v'
      · refine ⟨_, [some o0, some (.l (((ys ++ [v'.fmod 1000]).map D.int).map .v)), some k, some (.v (.int (v'.fdiv 1000))), some (.v d)], by simp! only []; rfl, ?_, ys ++ [v'.fmod 1000], _, _, by simp; omega, rfl⟩
        have hap := appL_l (xs := (ys.map D.int).map OD.v) (v := .v (.int (v'.fmod 1000))) (i := 1) (ρ := [some o0, some (.l ((ys.map D.int).map .v)), some k, some (.v (.int v')), some (.v d)]) (small_line' (by simp; omega))
        simp! only [hv, hap, List.map_append]
      · exact ⟨_, [some o0, some (.l ((ys.map D.int).map .v)), some k, some (.v (.int v')), some (.v d)], by simp! only []; rfl, by simp! only [hv], ys, v', _, by omega, rfl⟩) (rngD 0 60) [some o0, some (.l ((xs.map D.int).map .v)), some k, some (.v (.int v)), s0] ⟨xs, v, s0, by simp [rngD], rfl⟩
    exact ⟨ys, v', s', by simpa using h1, e⟩
  have inner2 : ∀ (o0 : OD) (k : Int) (xs : List Int) (v : Int) (s0 : Option OD), xs.length ≤ 4000 → ∃ (ys : List Int) (v' : Int) (s' : Option OD), ys.length ≤ xs.length + 60 ∧ zFor (.name 4) (zSeq (zSet 3 (mApp opMod [.val true (mApp opAdd [.val true (mApp opAdd [.val true (mApp opMul [.val true (mVar 3), .val true (mC (.int 48271))]), .val true (mApp opMul [.val true (mC (.int 69621)), .val true (mApp opAdd [.val true (mVar 2), .val true (mC (.int 1))])])]), .val true (mApp opMul [.val true (mC (.int 7)), .val true (mVar 4)])]), .val true (mC (.int 2147483647))])) (zSeq (zSet 3 (mApp opMod [.val true (mApp opMul [.val true (mVar 3), .val true (mC (.int 16807))]), .val true (mC (.int 2147483647))])) (zApp 1 (mApp opMod [.val true (mApp opFdv [.val true (mVar 3), .val true (mC (.int 1000))]), .val true (mC (.int 1000))])))) (rngD 0 4) [some o0, some (.l ((xs.map D.int).map .v)), some (.v (.int k)), some (.v (.int v)), s0] = .ok .nx [some o0, some (.l ((ys.map D.int).map .v)), some (.v (.int k)), some (.v (.int v')), s'] := by
    intro o0 k xs v s0 hx
    obtain ⟨ρ', e, ys, v', s', h1, _, rfl⟩ := for_step (tg := .name 4) (f := zSeq (zSet 3 (mApp opMod [.val true (mApp opAdd [.val true (mApp opAdd [.val true (mApp opMul [.val true (mVar 3), .val true (mC (.int 48271))]), .val true (mApp opMul [.val true (mC (.int 69621)), .val true (mApp opAdd [.val true (mVar 2), .val true (mC (.int 1))])])]), .val true (mApp opMul [.val true (mC (.int 7)), .val true (mVar 4)])]), .val true (mC (.int 2147483647))])) (zSeq (zSet 3 (mApp opMod [.val true (mApp opMul [.val true (mVar 3), .val true (mC (.int 16807))]), .val true (mC (.int 2147483647))])) (zApp 1 (mApp opMod [.val true (mApp opFdv [.val true (mVar 3), .val true (mC (.int 1000))]), .val true (mC (.int 1000))])))) (I := fun ds ρ => ∃ (ys : List Int) (v' : Int) (s' : Option OD), ys.length + ds.length ≤ xs.length + 60 ∧ (∀ d ∈ ds, ∃ j : Int, d = .int j) ∧ ρ = [some o0, some (.l ((ys.map D.int).map .v)), some (.v (.int k)), some (.v (.int v')), s']) (fun d ds ρ i => by
      obtain ⟨ys, v', s', h1, h2, rfl⟩ := i
      simp only [List.length_cons] at h1
      obtain ⟨j, rfl⟩ := h2 d List.mem_cons_self
      generalize hw : ((v' * 48271 + 69621 * (k + 1) + 7 * j).fmod 2147483647 * 16807).fmod 2147483647 = w
      have hap := appL_l (xs := (ys.map D.int).map OD.v) (v := .v (.int ((w.fdiv 1000).fmod 1000))) (i := 1) (ρ := [some o0, some (.l ((ys.map D.int).map .v)), some (.v (.int k)), some (.v (.int w)), some (.v (.int j))]) (small_line' (by simp; omega))
      refine ⟨_, [some o0, some (.l (((ys ++ [(w.fdiv 1000).fmod 1000]).map D.int).map .v)), some (.v (.int k)), some (.v (.int w)), some (.v (.int j))], by simp! only []; rfl, ?_, ys ++ [(w.fdiv 1000).fmod 1000], _, _, by simp; omega, fun x hx => h2 x (List.mem_cons_of_mem _ hx), rfl⟩
      simp! only [hw, hap, List.map_append]) (rngD 0 4) [some o0, some (.l ((xs.map D.int).map .v)), some (.v (.int k)), some (.v (.int v)), s0] ⟨xs, v, s0, by simp [rngD], fun d hd => by
        rw [rngD_map] at hd
        obtain ⟨j, _, rfl⟩ := List.mem_map.mp hd
        exact ⟨j, rfl⟩, rfl⟩
    exact ⟨ys, v', s', by simpa using h1, e⟩
  unfold F__law_tape m__law_tape
  generalize hb : (zSeq (zSet 3 (mApp opAbs [.val true (mApp opInt [.val true (mApp opIx [.val true (mVar 0), .val true (mVar 2)])])])) (zIf (asB (mApp opGe [.val true (mVar 3), .val true (mApp opPow [.val true (mC (.int 10)), .val true (mC (.int 18))])])) (zForIn (zRng1 (mC (.int 60))) (.name 4) (zIf (asB (mApp opGt [.val true (mVar 3), .val true (mC (.int 0))])) (zSeq (zApp 1 (mApp opMod [.val true (mVar 3), .val true (mC (.int 1000))])) (zSet 3 (mApp opFdv [.val true (mVar 3), .val true (mC (.int 1000))]))) zNext)) (zForIn (zRng1 (mC (.int 4))) (.name 4) (zSeq (zSet 3 (mApp opMod [.val true (mApp opAdd [.val true (mApp opAdd [.val true (mApp opMul [.val true (mVar 3), .val true (mC (.int 48271))]), .val true (mApp opMul [.val true (mC (.int 69621)), .val true (mApp opAdd [.val true (mVar 2), .val true (mC (.int 1))])])]), .val true (mApp opMul [.val true (mC (.int 7)), .val true (mVar 4)])]), .val true (mC (.int 2147483647))])) (zSeq (zSet 3 (mApp opMod [.val true (mApp opMul [.val true (mVar 3), .val true (mC (.int 16807))]), .val true (mC (.int 2147483647))])) (zApp 1 (mApp opMod [.val true (mApp opFdv [.val true (mVar 3), .val true (mC (.int 1000))]), .val true (mC (.int 1000))]))))))) = body
  obtain ⟨ρ', e, ys, o2, o3, o4, h1, _, rfl⟩ := for_step (tg := .name 2) (f := body) (I := fun ds ρ => ∃ (ys : List Int) (o2 o3 o4 : Option OD), ys.length + 60 * ds.length ≤ 60 * ns.length ∧ (∀ d ∈ ds, ∃ k : Nat, k < ns.length ∧ d = .int (k : Int)) ∧ ρ = [some (.v (.rol (ns.map .int))), some (.l ((ys.map D.int).map .v)), o2, o3, o4]) (fun d ds ρ i => by
    obtain ⟨ys, o2, o3, o4, h1, h2, rfl⟩ := i
    simp only [List.length_cons, Nat.mul_add, Nat.mul_one] at h1
    obtain ⟨k, hk, rfl⟩ := h2 d List.mem_cons_self
    have hix := opIx_rol_get (ds := ns.map .int) (i := k) (d := .int ns[k]) (by rw [List.getElem?_map, List.getElem?_eq_getElem hk]; rfl)
    subst hb
    obtain ⟨y1, v1, s1, a1, q1⟩ := inner1 (.v (.rol (ns.map .int))) (.v (.int k)) ys (if ns[k] < 0 then -ns[k] else ns[k]) o4 (by omega)
    obtain ⟨y2, v2, s2, a2, q2⟩ := inner2 (.v (.rol (ns.map .int))) k ys (if ns[k] < 0 then -ns[k] else ns[k]) o4 (by omega)
    by_cases hd : (1000000000000000000 : Int) ≤ (if ns[k] < 0 then -ns[k] else ns[k])
    · refine ⟨_, _, by simp! only []; rfl, by simp! only [hix, hd, rng1_int (n := 60) (by decide), Int.reduceToNat, q1]; rfl, y1, _, _, _, by omega, fun x hx => h2 x (List.mem_cons_of_mem _ hx), rfl⟩
    · refine ⟨_, _, by simp! only []; rfl, by simp! only [hix, hd, rng1_int (n := 4) (by decide), Int.reduceToNat, q2]; rfl, y2, _, _, _, by omega, fun x hx => h2 x (List.mem_cons_of_mem _ hx), rfl⟩) (rngD 0 ns.length) [some (.v (.rol (ns.map .int))), some (.l []), none, none, none] ⟨[], none, none, none, by simp [rngD], fun d hd => by
        rw [rngD_map] at hd
        obtain ⟨j, hj, rfl⟩ := List.mem_map.mp hd
        exact ⟨j, List.mem_range.mp hj, rfl⟩, rfl⟩
  refine ⟨ys, ?_⟩
  simp! only [List.length_map, rng1_int (n := (ns.length : Int)) (by omega), Int.toNat_natCast, e]
/-! slices -/
theorem cut_to {α : Type} (xs : List α) (j : Nat) (h : j ≤ xs.length) : cutD xs none (some (j : Int)) = xs.take j := by
  unfold cutD
  rw [HT.sIx_none, HT.sIx_nat, Nat.min_eq_left h]
  simp
theorem cut_from {α : Type} (xs : List α) (j : Nat) (h : j ≤ xs.length) : cutD xs (some (j : Int)) none = xs.drop j := by
  unfold cutD
  rw [HT.sIx_none, HT.sIx_nat, Nat.min_eq_left h]
  exact List.take_of_length_le (by rw [List.length_drop]; omega)
theorem cut_last {α : Type} (xs : List α) : cutD xs none (some (-1)) = xs.dropLast := by
  unfold cutD
  rw [HT.sIx_none]
  have : HT.sIx xs.length xs.length (some (-1)) = xs.length - 1 := by
    show (if (-1 : Int) < 0 then ((-1 : Int) + (xs.length : Int)).toNat else min (-1 : Int).toNat xs.length) = _
    rw [if_pos (by decide)]
    omega
  rw [this, List.dropLast_eq_take]
  simp
theorem opSl_to {ds : List D} {j : Nat} (h : j ≤ ds.length) : opSl false true [.lst ds, .int j] = some (.l ((ds.take j).map .v)) := by
  show some (OD.l ((cutD ds none (some (j : Int))).map OD.v)) = _
  rw [cut_to ds j h]
theorem opSl_from {ds : List D} {j : Nat} (h : j ≤ ds.length) : opSl true false [.lst ds, .int j] = some (.l ((ds.drop j).map .v)) := by
  show some (OD.l ((cutD ds (some (j : Int)) none).map OD.v)) = _
  rw [cut_from ds j h]
theorem opSl_last {ds : List D} : opSl false true [.lst ds, .int (-1)] = some (.l (ds.dropLast.map .v)) := by
  show some (OD.l ((cutD ds none (some (-1))).map OD.v)) = _
  rw [cut_last ds]
/-! counting starts and ends -/
def nst : List Ev → Nat
  | [] => 0
  | .st _ _ :: es => nst es + 1
  | _ :: es => nst es
def nen : List Ev → Nat
  | [] => 0
  | .en _ :: es => nen es + 1
  | _ :: es => nen es
theorem nst_app : ∀ (a b : List Ev), nst (a ++ b) = nst a + nst b
  | [], b => by simp [nst]
  | e :: a, b => by cases e <;> simp only [List.cons_append, nst, nst_app a b] <;> omega
theorem nen_app : ∀ (a b : List Ev), nen (a ++ b) = nen a + nen b
  | [], b => by simp [nen]
  | e :: a, b => by cases e <;> simp only [List.cons_append, nen, nen_app a b] <;> omega
theorem scan_count : ∀ (es : List Ev) (f : Bool) (st st' : List Str), scan f st es = some st' → st.length + nst es = st'.length + nen es
  | [], f, st, st', h => by simp only [scan] at h; cases h; simp [nst, nen]
  | e :: es, f, [], st', h => by
    cases e <;> simp only [scan] at h
    · split at h
      · have := scan_count es false _ st' h
        simp only [List.length_cons, List.length_nil] at this
        simp only [nst, nen, List.length_nil]; omega
      · cases h
    · cases h
    · cases h
    · cases h
  | e :: es, f, a :: st, st', h => by
    cases e <;> simp only [scan] at h
    · have := scan_count es false _ st' h
      simp only [List.length_cons] at this
      simp only [nst, nen, List.length_cons]; omega
    · have := scan_count es false _ st' h
      simp only [nst, nen]; omega
    · split at h
      · have := scan_count es false _ st' h
        simp only [nst, nen, List.length_cons]; omega
      · cases h
    · cases h
theorem isDoc_count {es : List Ev} (h : isDoc es = true) : nst es = nen es := by
  unfold isDoc at h
  simp only [Bool.and_eq_true] at h
  cases q : scan true [] es with
  | none => rw [q] at h; simp at h
  | some st =>
    rw [q] at h
    have := scan_count es true [] st q
    have h0 : st = [] := by simpa using h.2.2
    subst h0
    simpa using this
theorem not_doc {es : List Ev} (h : nst es ≠ nen es) : isDoc es = false := by
  cases q : isDoc es with
  | false => rfl
  | true => exact absurd (isDoc_count q) h
theorem not_doc_bad {es : List Ev} {e : Ev} (hm : e ∈ es) (h : e.ok = false) : isDoc es = false := by
  have : es.all Ev.ok = false := by
    rw [List.all_eq_false]
    exact ⟨e, hm, by simp [h]⟩
  unfold isDoc
  rw [this]; rfl
mutual
theorem scan_ev : ∀ (t : T) (a : Str) (st : List Str) (rest : List Ev), scan false (a :: st) (t.ev ++ rest) = scan false (a :: st) rest
  | .sg c, a, st, rest => by simp only [T.ev, List.cons_append, List.nil_append, scan]
  | .nd nm ats ch, a, st, rest => by
    simp only [T.ev, List.cons_append, scan, List.append_assoc]
    rw [scan_evs ch nm (a :: st)]
    simp only [List.cons_append, List.nil_append, scan, if_true]
theorem scan_evs : ∀ (ts : List T) (a : Str) (st : List Str) (rest : List Ev), scan false (a :: st) (T.evs ts ++ rest) = scan false (a :: st) rest
  | [], a, st, rest => by simp only [T.evs, List.nil_append]
  | t :: ts, a, st, rest => by
    simp only [T.evs, List.append_assoc]
    rw [scan_ev t, scan_evs ts]
end
theorem scan_doc (nm : Str) (ats : List At) (ch : List T) (rest : List Ev) : scan true [] ((T.nd nm ats ch).ev ++ rest) = scan false [] rest := by
  simp only [T.ev, List.cons_append, scan, List.append_assoc, if_true]
  rw [scan_evs ch nm []]
  simp only [List.cons_append, List.nil_append, scan, if_true]
theorem isDoc_more (nm : Str) (ats : List At) (ch : List T) (e : Ev) : isDoc ((T.nd nm ats ch).ev ++ [e]) = false := by
  unfold isDoc
  rw [scan_doc nm ats ch [e]]
  cases e <;> simp [scan]


/-! data that can be compared -/
def Pl (d : D) (n : Nat) : Prop := ∃ p, toPy d = some p ∧ p.plain = true ∧ p.depth ≤ n
theorem pls {n : Nat} : ∀ {ds : List D}, (∀ d ∈ ds, Pl d n) → ∃ ps, toPys ds = some ps ∧ PyData.plainAll ps = true ∧ PyData.depthAll ps ≤ n
  | [], _ => ⟨[], rfl, rfl, by simp [PyData.depthAll]⟩
  | d :: ds, h => by
    obtain ⟨p, h1, h2, h3⟩ := h d List.mem_cons_self
    obtain ⟨ps, g1, g2, g3⟩ := pls fun x hx => h x (List.mem_cons_of_mem _ hx)
    refine ⟨p :: ps, by simp [toPys, h1, g1], by simp [PyData.plainAll, h2, g2], ?_⟩
    simp only [PyData.depthAll]
    omega
theorem pl_str (s : Str) (n : Nat) : Pl (.str s) n := ⟨.str s, rfl, rfl, by simp [PyData.depth]⟩
theorem pl_tup {ds : List D} {n : Nat} (h : ∀ d ∈ ds, Pl d n) : Pl (.tup ds) (n + 1) := by
  obtain ⟨ps, g1, g2, g3⟩ := pls h
  exact ⟨.tuple ps, by simp [toPy, g1], by simpa [PyData.plain] using g2, by simp only [PyData.depth]; omega⟩
theorem pl_lst {ds : List D} {n : Nat} (h : ∀ d ∈ ds, Pl d n) : Pl (.lst ds) (n + 1) := by
  obtain ⟨ps, g1, g2, g3⟩ := pls h
  exact ⟨.list ps, by simp [toPy, g1], by simpa [PyData.plain] using g2, by simp only [PyData.depth]; omega⟩
theorem Pl.up {d : D} {n m : Nat} (h : Pl d n) (hm : n ≤ m) : Pl d m := by
  obtain ⟨p, h1, h2, h3⟩ := h
  exact ⟨p, h1, h2, by omega⟩
theorem Pl.eq {d : D} (h : Pl d 60) : opEq [d, d] = some (.v (.bl true)) := by
  obtain ⟨p, h1, h2, h3⟩ := h
  exact opEq_same h1 h2 h3
theorem Pl.ne {d : D} (h : Pl d 60) : opNe [d, d] = some (.v (.bl false)) := by
  obtain ⟨p, h1, h2, h3⟩ := h
  exact opNe_same h1 h2 h3
theorem pl_at (ats : List At) : Pl (atD ats) 2 := pl_tup fun d hd => by
  obtain ⟨p, _, rfl⟩ := List.mem_map.mp hd
  exact pl_tup (n := 0) fun d hd => by
    simp only [List.mem_cons, List.not_mem_nil, or_false] at hd
    rcases hd with rfl | rfl <;> exact pl_str _ _
theorem pl_ev (e : Ev) (h : e.ok = true) : Pl e.d 3 := by
  cases e with
  | st nm ats =>
    exact pl_tup fun d hd => by
      simp only [List.mem_cons, List.not_mem_nil, or_false] at hd
      rcases hd with rfl | rfl | rfl
      · exact pl_str _ _
      · exact pl_str _ _
      · exact pl_at _
  | ch c =>
    exact pl_tup fun d hd => by
      simp only [List.mem_cons, List.not_mem_nil, or_false] at hd
      rcases hd with rfl | rfl <;> exact pl_str _ _
  | en nm =>
    exact pl_tup fun d hd => by
      simp only [List.mem_cons, List.not_mem_nil, or_false] at hd
      rcases hd with rfl | rfl <;> exact pl_str _ _
  | bad d => cases h
mutual
theorem pl_t : ∀ t : T, Pl t.d (2 * t.dep + 2)
  | .sg c => by simp only [T.d]; exact pl_str _ _
  | .nd nm ats ch => by
    have h := pl_ts ch
    simp only [T.d, T.dep]
    exact pl_tup (n := 2 * T.deps ch + 3) fun d hd => by
      simp only [List.mem_cons, List.not_mem_nil, or_false] at hd
      rcases hd with rfl | rfl | rfl
      · exact pl_str _ _
      · exact (pl_at _).up (by omega)
      · exact pl_tup h
theorem pl_ts : ∀ ts : List T, ∀ d ∈ T.ds ts, Pl d (2 * T.deps ts + 2)
  | [], d, hd => by simp [T.ds] at hd
  | t :: ts, d, hd => by
    simp only [T.ds, List.mem_cons] at hd
    simp only [T.deps]
    rcases hd with rfl | hd
    · exact (pl_t t).up (by omega)
    · exact (pl_ts ts d hd).up (by omega)
end
/-! document_events -/
inductive Oe where
  | ev (e : Ev)
  | sg (c : Nat)
def Oe.d : Oe → D
  | .ev e => e.d
  | .sg c => .tup [.str "signs", .str (ch1 c ++ "xy")]
def Oe.due : Oe → List D
  | .ev e => [e.d]
  | .sg c => [(Ev.ch c).d, .tup [.str "char", .str "x"], .tup [.str "char", .str "y"]]
theorem cxy (c : Nat) : (ch1 c ++ "xy").cps.toList = [c, 120, 121] := by
  show ((⟨#[c]⟩ : Str) ++ "xy").cps.toList = _
  have := TL.tl_append (⟨#[c]⟩ : Str) "xy"
  exact this

end Lw

namespace Lw
open PySem L2 Vs VsEv
/-! the object of class WordReader (printed by genWr.py) -/
def wrF : List Str := ["place", "state", "rows", "digits", "text", "value"]
def wrO (a b c d e f : OD) : OD := .o "WordReader" wrF [a, b, c, d, e, f]
section
variable {a b c d e f u w : OD} {xs ys : List OD} {i : Nat} {ρ : Vs.Env}
theorem at_place : OD.at [.fld "WordReader" "place"] (wrO a b c d e f) = some a := by
  show (if ("WordReader" : Str) = "WordReader" then _ else _) = _
  rw [if_pos rfl]; rfl
theorem put_place : OD.putAt [.fld "WordReader" "place"] (wrO a b c d e f) u = some (wrO u b c d e f) := by
  show (if ("WordReader" : Str) = "WordReader" then _ else _) = _
  rw [if_pos rfl]; rfl
theorem set_place : setFP i "WordReader" "place" u ρ (some (wrO a b c d e f)) = .ok .nx (ρ.set i (some (wrO u b c d e f))) := by
  unfold wrO
  rw [setFP_o (by decide)]
  rfl
theorem at_state : OD.at [.fld "WordReader" "state"] (wrO a b c d e f) = some b := by
  show (if ("WordReader" : Str) = "WordReader" then _ else _) = _
  rw [if_pos rfl]; rfl
theorem put_state : OD.putAt [.fld "WordReader" "state"] (wrO a b c d e f) u = some (wrO a u c d e f) := by
  show (if ("WordReader" : Str) = "WordReader" then _ else _) = _
  rw [if_pos rfl]; rfl
theorem set_state : setFP i "WordReader" "state" u ρ (some (wrO a b c d e f)) = .ok .nx (ρ.set i (some (wrO a u c d e f))) := by
  unfold wrO
  rw [setFP_o (by decide)]
  rfl
theorem at_rows : OD.at [.fld "WordReader" "rows"] (wrO a b c d e f) = some c := by
  show (if ("WordReader" : Str) = "WordReader" then _ else _) = _
  rw [if_pos rfl]; rfl
theorem put_rows : OD.putAt [.fld "WordReader" "rows"] (wrO a b c d e f) u = some (wrO a b u d e f) := by
  show (if ("WordReader" : Str) = "WordReader" then _ else _) = _
  rw [if_pos rfl]; rfl
theorem set_rows : setFP i "WordReader" "rows" u ρ (some (wrO a b c d e f)) = .ok .nx (ρ.set i (some (wrO a b u d e f))) := by
  unfold wrO
  rw [setFP_o (by decide)]
  rfl
theorem at_digits : OD.at [.fld "WordReader" "digits"] (wrO a b c d e f) = some d := by
  show (if ("WordReader" : Str) = "WordReader" then _ else _) = _
  rw [if_pos rfl]; rfl
theorem put_digits : OD.putAt [.fld "WordReader" "digits"] (wrO a b c d e f) u = some (wrO a b c u e f) := by
  show (if ("WordReader" : Str) = "WordReader" then _ else _) = _
  rw [if_pos rfl]; rfl
theorem set_digits : setFP i "WordReader" "digits" u ρ (some (wrO a b c d e f)) = .ok .nx (ρ.set i (some (wrO a b c u e f))) := by
  unfold wrO
  rw [setFP_o (by decide)]
  rfl
theorem at_text : OD.at [.fld "WordReader" "text"] (wrO a b c d e f) = some e := by
  show (if ("WordReader" : Str) = "WordReader" then _ else _) = _
  rw [if_pos rfl]; rfl
theorem put_text : OD.putAt [.fld "WordReader" "text"] (wrO a b c d e f) u = some (wrO a b c d u f) := by
  show (if ("WordReader" : Str) = "WordReader" then _ else _) = _
  rw [if_pos rfl]; rfl
theorem set_text : setFP i "WordReader" "text" u ρ (some (wrO a b c d e f)) = .ok .nx (ρ.set i (some (wrO a b c d u f))) := by
  unfold wrO
  rw [setFP_o (by decide)]
  rfl
theorem at_value : OD.at [.fld "WordReader" "value"] (wrO a b c d e f) = some f := by
  show (if ("WordReader" : Str) = "WordReader" then _ else _) = _
  rw [if_pos rfl]; rfl
theorem put_value : OD.putAt [.fld "WordReader" "value"] (wrO a b c d e f) u = some (wrO a b c d e u) := by
  show (if ("WordReader" : Str) = "WordReader" then _ else _) = _
  rw [if_pos rfl]; rfl
theorem set_value : setFP i "WordReader" "value" u ρ (some (wrO a b c d e f)) = .ok .nx (ρ.set i (some (wrO a b c d e u))) := by
  unfold wrO
  rw [setFP_o (by decide)]
  rfl
theorem app_rows (hl : xs.length < sizeLine) : appPP (some (wrO a b (.l xs) d e f)) i [.fld "WordReader" "rows"] u ρ = .ok .nx (ρ.set i (some (wrO a b (.l (xs ++ [u])) d e f))) := appPP_at at_rows put_rows hl
theorem pop_rows : popP (some (wrO a b (.l (xs ++ [u])) d e f)) i [.fld "WordReader" "rows"] ρ = .ok u (ρ.set i (some (wrO a b (.l xs) d e f))) := popP_at at_rows put_rows
theorem last_rows : OD.at [.fld "WordReader" "rows", .ix (-1)] (wrO a b (.l (xs ++ [u])) d e f) = some u := by
  show (if ("WordReader" : Str) = "WordReader" then _ else _) = _
  rw [if_pos rfl]
  show ((some (OD.l (xs ++ [u]))).bind (OD.at [.ix (-1)])) = _
  exact at_last xs u
theorem puts_rows : OD.putAt [.fld "WordReader" "rows", .ix (-1)] (wrO a b (.l (xs ++ [u])) d e f) w = some (wrO a b (.l (xs ++ [w])) d e f) := by
  show (if ("WordReader" : Str) = "WordReader" then _ else _) = _
  rw [if_pos rfl]
  show (OD.putAt [.ix (-1)] (.l (xs ++ [u])) w).map (fun y => OD.o "WordReader" wrF ([a, b, OD.l (xs ++ [u]), d, e, f].set 2 y)) = _
  rw [put_last]; rfl
theorem apps_rows (hl : ys.length < sizeLine) : appPP (some (wrO a b (.l (xs ++ [.l ys])) d e f)) i [.fld "WordReader" "rows", .ix (-1)] u ρ = .ok .nx (ρ.set i (some (wrO a b (.l (xs ++ [.l (ys ++ [u])])) d e f))) := appPP_at last_rows puts_rows hl
theorem wr_init : F_WordReader___init__ [.o "WordReader" [] []] = .ok (.v .non) [some (wrO (.v (.int 0)) (.v (.str "value")) (.l []) (.v (.str "")) (.v (.str "")) (.v .non))] := by rfl
end
theorem ne_value_n : (("value" : Str) = ("n" : Str)) = False := eq_false (by decide +kernel)
theorem ne_value_t : (("value" : Str) = ("t" : Str)) = False := eq_false (by decide +kernel)
theorem ne_value_text : (("value" : Str) = ("text" : Str)) = False := eq_false (by decide +kernel)
theorem ne_value_over : (("value" : Str) = ("over" : Str)) = False := eq_false (by decide +kernel)
theorem ne_n_value : (("n" : Str) = ("value" : Str)) = False := eq_false (by decide +kernel)
theorem ne_n_t : (("n" : Str) = ("t" : Str)) = False := eq_false (by decide +kernel)
theorem ne_n_text : (("n" : Str) = ("text" : Str)) = False := eq_false (by decide +kernel)
theorem ne_n_over : (("n" : Str) = ("over" : Str)) = False := eq_false (by decide +kernel)
theorem ne_t_value : (("t" : Str) = ("value" : Str)) = False := eq_false (by decide +kernel)
theorem ne_t_n : (("t" : Str) = ("n" : Str)) = False := eq_false (by decide +kernel)
theorem ne_t_text : (("t" : Str) = ("text" : Str)) = False := eq_false (by decide +kernel)
theorem ne_t_over : (("t" : Str) = ("over" : Str)) = False := eq_false (by decide +kernel)
theorem ne_text_value : (("text" : Str) = ("value" : Str)) = False := eq_false (by decide +kernel)
theorem ne_text_n : (("text" : Str) = ("n" : Str)) = False := eq_false (by decide +kernel)
theorem ne_text_t : (("text" : Str) = ("t" : Str)) = False := eq_false (by decide +kernel)
theorem ne_text_over : (("text" : Str) = ("over" : Str)) = False := eq_false (by decide +kernel)
theorem ne_over_value : (("over" : Str) = ("value" : Str)) = False := eq_false (by decide +kernel)
theorem ne_over_n : (("over" : Str) = ("n" : Str)) = False := eq_false (by decide +kernel)
theorem ne_over_t : (("over" : Str) = ("t" : Str)) = False := eq_false (by decide +kernel)
theorem ne_over_text : (("over" : Str) = ("text" : Str)) = False := eq_false (by decide +kernel)
theorem cq_111 {c : Nat} : ((ch1 c : Str) = ("o" : Str)) = (c = 111) := propext ⟨fun h => by unfold ch1 at h; have := congrArg (fun s : Str => s.cps.toList) h; simpa using (show [c] = [111] from this), fun h => by rw [h]; rfl⟩
theorem cq_40 {c : Nat} : ((ch1 c : Str) = ("(" : Str)) = (c = 40) := propext ⟨fun h => by unfold ch1 at h; have := congrArg (fun s : Str => s.cps.toList) h; simpa using (show [c] = [40] from this), fun h => by rw [h]; rfl⟩
theorem cq_41 {c : Nat} : ((ch1 c : Str) = (")" : Str)) = (c = 41) := propext ⟨fun h => by unfold ch1 at h; have := congrArg (fun s : Str => s.cps.toList) h; simpa using (show [c] = [41] from this), fun h => by rw [h]; rfl⟩
theorem cq_110 {c : Nat} : ((ch1 c : Str) = ("n" : Str)) = (c = 110) := propext ⟨fun h => by unfold ch1 at h; have := congrArg (fun s : Str => s.cps.toList) h; simpa using (show [c] = [110] from this), fun h => by rw [h]; rfl⟩
theorem cq_116 {c : Nat} : ((ch1 c : Str) = ("t" : Str)) = (c = 116) := propext ⟨fun h => by unfold ch1 at h; have := congrArg (fun s : Str => s.cps.toList) h; simpa using (show [c] = [116] from this), fun h => by rw [h]; rfl⟩
theorem cq_59 {c : Nat} : ((ch1 c : Str) = (";" : Str)) = (c = 59) := propext ⟨fun h => by unfold ch1 at h; have := congrArg (fun s : Str => s.cps.toList) h; simpa using (show [c] = [59] from this), fun h => by rw [h]; rfl⟩
theorem cq_58 {c : Nat} : ((ch1 c : Str) = (":" : Str)) = (c = 58) := propext ⟨fun h => by unfold ch1 at h; have := congrArg (fun s : Str => s.cps.toList) h; simpa using (show [c] = [58] from this), fun h => by rw [h]; rfl⟩
theorem cq_48 {c : Nat} : ((ch1 c : Str) = ("0" : Str)) = (c = 48) := propext ⟨fun h => by unfold ch1 at h; have := congrArg (fun s : Str => s.cps.toList) h; simpa using (show [c] = [48] from this), fun h => by rw [h]; rfl⟩
end Lw
namespace VsEv
open Lw Vs PySem L2
end VsEv

open Lw Vs PySem L2
local macro_rules
  | `(tactic| simp! only [$ls,*]) => `(tactic| simp only [↓bind_e, bindL_ok, bindL_exc, bindL_stuck, defM_e, mApp_e, mBm_e, mTake_e, mC_e, mVar_e, gotV_some, mFz_e, asB_e, isB_bl, mB_e, bAnd_e, bOr_e, bNot_e, mIf_e, zNext_e, zBreak_e, zCont_e, thenS_nx, thenS_rt, thenS_bk, thenS_ct, zSeq_e, zSet_e, zRet_e, zRetN_e, zDrop_e, zIf_e, zSetIx_e, zForIn_e, zLoop_nx, zLoop_ct, zLoop_bk, zLoop_rt, ofO_some, ofS_some, ofI_some, zIt_e, zRng1_e, callO_some, retO_ok, retO_exc, mCall_e, takeP_some, takeAll_nil, takeAll_own, takeAll_plc, putP_none, putBack_plc, putBack_own, putBack_nil, retD_rt, retD_nx, retD_exc, opIx_lst, opIx_rol, opIx_tup, opEq_int, opNe_int, opEq_str, opNe_str, opAdd_int, opSub_int, opLt_int, opLe_int, opGt_int, opGe_int, opAbs_int, opInt_int, opInt_bl, opLen_lst, opLen_rol, opLen_tup, opList_lst, opList_rol, opList_tup, fz_v, fz_l, fzs_nil, fzs_cons, fzs_mv, shs_nil, shs_cons, shs_v, sh_v, sh_l, ev_val, ev_plc, evAll_nil, evAll_cons, okPl_nil, okPl_val, okPl_plc, res_nil, res_own, res_plc, putS_e, putIx_l, back_nil, back_t, back_f, tgt_name, tgt_tup, setAll_nil, setAll_cons, items_lst, items_tup, items_str, slotIs, T_str, T_list, T_dict, T_int, isKd, kdOf, beq_self_eq_true, kLst_e, kLstO_e, kTup_e, mLst_e, mLstO_e, mTup_e, mDict_e, wipeE_nil, wipeE_cons, atI_0, ixN_0, atI_1, ixN_1, atI_2, ixN_2, atI_3, ixN_3, atI_4, ixN_4, atI_5, ixN_5, atI_6, ixN_6, atI_7, ixN_7, atI_8, ixN_8, atI_9, ixN_9, atI_10, ixN_10, atI_11, ixN_11, atI_12, ixN_12, atI_13, ixN_13, atI_14, ixN_14, atI_15, ixN_15, ixN_nat, atI_ofNat, opMul_r, opMul_l, opFdv_p, opMod_p, opPow_10_18, or_true, true_or, Int.reduceLT, Int.reduceNeg, Int.reduceLE, Int.reducePow, Int.reduceEq, Int.natAbs, Int.reduceAbs, N.Out_bind_ok, N.Out_bind_exc, N.Out_bind_stuck, N.Option_map_some, N.Option_map_none, N.Option_bind_some, N.Option_bind_none, N.Option_join_some, N.Option_isSome_some, Bool.and_true, Bool.true_and, Bool.and_self, Bool.or_true, Bool.true_or, Bool.or_false, Bool.false_or, Bool.not_true, Bool.not_false, Bool.false_eq_true, if_true, if_false, ite_true, ite_false, N.List_length_cons, N.List_length_nil, N.List_map_cons, N.List_map_nil, N.List_cons_append, N.List_nil_append, List.replicate, N.List_getElemQ_cons_zero, N.List_getElemQ_cons_succ, N.List_set_cons_zero, N.List_set_cons_succ, decide_true, decide_false, reduceIte, Nat.reduceAdd, Nat.reduceSub, Nat.reduceLT, Nat.reduceLeDiff, Nat.reduceEqDiff, Nat.zero_add, Nat.succ_eq_add_one, eq_self, ne_eq, not_true_eq_false, not_false_eq_true, and_self, and_true, true_and, isi_str_non, isi_str_bl, isi_str_int, isi_str_str, isi_str_tup, isi_str_lst, isi_str_rol, isi_str_dk, isi_int_non, isi_int_bl, isi_int_int, isi_int_str, isi_int_tup, isi_int_lst, isi_int_rol, isi_int_dk, isi_bool_non, isi_bool_bl, isi_bool_int, isi_bool_str, isi_bool_tup, isi_bool_lst, isi_bool_rol, isi_bool_dk, isi_tuple_non, isi_tuple_bl, isi_tuple_int, isi_tuple_str, isi_tuple_tup, isi_tuple_lst, isi_tuple_rol, isi_tuple_dk, isi_list_non, isi_list_bl, isi_list_int, isi_list_str, isi_list_tup, isi_list_lst, isi_list_rol, isi_list_dk, isi_dict_non, isi_dict_bl, isi_dict_int, isi_dict_str, isi_dict_tup, isi_dict_lst, isi_dict_rol, isi_dict_dk, opIsN_bl, opNotN_bl, opIsN_int, opNotN_int, opIsN_str, opNotN_str, opIsN_tup, opNotN_tup, opIsN_lst, opNotN_lst, opIsN_rol, opNotN_rol, opIsN_dk, opNotN_dk, opIsN_non, opNotN_non, opMin_int, opMax_int, opNeg_int, opTuple_lst, opTuple_rol, opTuple_tup, opLen_dk, opLt_str, opLe_str, opIn_1, opIn_dk, opIn_dki, opIn_dkn, mChain_e, chainC_e, chainD_e, gLe_e, gLt_e, isLs_l, zApp_e, mvO_some, mMv_o, slotAt_e, getP_v, mGet_e, mPop_e, popP_snoc, zAppP_e, zTryAs_e, tryA_ok, zRaise0_e, Bool.false_xor, Bool.true_xor, decide_not, Bool.not_not, or_false, false_or, false_and, and_false, natCast_0, natCast_1, natCast_2, natCast_3, natCast_4, natCast_5, natCast_6, natCast_7, natCast_8, natCast_9, natCast_10, natCast_11, natCast_12, natCast_13, natCast_14, natCast_15, natCast_16, natCast_17, natCast_18, natCast_19, natCast_20, natCast_21, natCast_22, natCast_23, natCast_24, natCast_25, natCast_26, natCast_27, natCast_28, natCast_29, natCast_30, opTru_non, opTru_bl, opTru_int, opTru_tup, opTru_lst, opTru_rol, shs_map, shs_mapf, fzs_mapf, mTakeO_e, mLstQ_e, takeQ_some, takeO_nil, takeO_own, takeO_plc, opListA_lst, opListA_rol, opListA_tup, opListA_dk, mDict0_e, zAug_e, augO_int, fAdd_e, fSub_e, zSetF_e, zAugF_e, augFO_int, augFP_int, mMake_e, opKIn_e, opKIx_e, opDictA_lst, opDictA_dk, ne_value_n, ne_value_t, ne_value_text, ne_value_over, ne_n_value, ne_n_t, ne_n_text, ne_n_over, ne_t_value, ne_t_n, ne_t_text, ne_t_over, ne_text_value, ne_text_n, ne_text_t, ne_text_over, ne_over_value, ne_over_n, ne_over_t, ne_over_text, cq_111, cq_40, cq_41, cq_110, cq_116, cq_59, cq_58, cq_48, $ls,*])
namespace Lw
open PySem L2 Vs VsEv
open PySem.NumText
/-! digits -/
def dg (n : Nat) : List Nat := (Nat.toDigits 10 n).map Char.toNat
theorem dg_all (n : Nat) : AllDigits (dg n) := fun c hc => by
  obtain ⟨x, hx, rfl⟩ := List.mem_map.mp hc
  have h := Nat.isDigit_of_mem_toDigits (by decide) (by decide) hx
  unfold Char.isDigit at h
  simp only [Bool.and_eq_true, decide_eq_true_eq, ge_iff_le] at h
  exact h
theorem dv_dg (n : Nat) : digitsVal (dg n) = n := PySem.W.KIN.val_back n
theorem charNat {c : Nat} (h : 48 ≤ c ∧ c ≤ 57) : (Char.ofNat c).toNat = c := by
  have : ∀ d : Nat, d < 58 → 48 ≤ d → (Char.ofNat d).toNat = d := by decide
  exact this c (by omega) h.1
theorem mapback {cs : List Nat} (h : AllDigits cs) : (cs.map Char.ofNat).map Char.toNat = cs := by
  rw [List.map_map]
  conv => rhs; rw [← List.map_id cs]
  exact List.map_congr_left fun c hc => charNat (h c hc)
theorem dg_dv {cs : List Nat} (h : AllDigits cs) (h2 : cs = [48] ∨ ∃ c r, cs = c :: r ∧ 49 ≤ c) : dg (digitsVal cs) = cs := by
  unfold dg
  rw [toDigits_all cs h]
  rcases h2 with rfl | ⟨c, r, rfl, hc⟩
  · rfl
  · rw [List.dropWhile_cons, if_neg (by rw [beq_iff_eq]; omega)]
    exact mapback h
theorem dg_form (n : Nat) : dg n = [48] ∨ ∃ c r, dg n = c :: r ∧ 49 ≤ c := by
  have e := toDigits_all (dg n) (dg_all n)
  rw [dv_dg] at e
  have e2 : dg n = (match (dg n).dropWhile (· == 48) with
    | [] => ['0']
    | c :: r => (c :: r).map Char.ofNat).map Char.toNat := congrArg (List.map Char.toNat) e
  cases q : (dg n).dropWhile (· == 48) with
  | nil => rw [q] at e2; exact .inl e2
  | cons c r =>
    rw [q] at e2
    have hs : (dg n).dropWhile (· == 48) <:+ dg n := List.dropWhile_suffix _
    have hall : AllDigits (c :: r) := fun x hx => dg_all n x (hs.subset (by rw [q]; exact hx))
    have e3 : dg n = c :: r := e2.trans (mapback hall)
    refine .inr ⟨c, r, e3, ?_⟩
    have h0 : (c == 48) = false := by
      have := List.head?_dropWhile_not (· == 48) (dg n)
      rw [q] at this
      simpa using this
    have h1 := hall.head
    simp at h0
    omega
theorem dv_lt : ∀ (cs : List Nat) (a : Nat), AllDigits cs → cs.foldl (fun acc c => acc * 10 + (c - 48)) a < (a + 1) * 10 ^ cs.length
  | [], a, _ => by simp
  | c :: cs, a, h => by
    have h1 := dv_lt cs (a * 10 + (c - 48)) h.tail
    have h2 := h.head
    rw [List.foldl_cons, List.length_cons, Nat.pow_succ]
    have h3 : (a * 10 + (c - 48) + 1) ≤ (a + 1) * 10 := by omega
    have h4 := Nat.mul_le_mul_right (10 ^ cs.length) h3
    have h5 : (a + 1) * 10 * 10 ^ cs.length = (a + 1) * (10 ^ cs.length * 10) := by rw [Nat.mul_assoc, Nat.mul_comm 10]
    omega
theorem dv_ge : ∀ (cs : List Nat) (a : Nat), a * 10 ^ cs.length ≤ cs.foldl (fun acc c => acc * 10 + (c - 48)) a
  | [], a => by simp
  | c :: cs, a => by
    have h1 := dv_ge cs (a * 10 + (c - 48))
    rw [List.foldl_cons, List.length_cons, Nat.pow_succ]
    have h4 := Nat.mul_le_mul_right (10 ^ cs.length) (show a * 10 ≤ a * 10 + (c - 48) by omega)
    have h5 : a * 10 * 10 ^ cs.length = a * (10 ^ cs.length * 10) := by rw [Nat.mul_assoc, Nat.mul_comm 10]
    omega
theorem dg_len {n : Nat} (h : n < 10 ^ 9) : 1 ≤ (dg n).length ∧ (dg n).length ≤ 9 := by
  rcases dg_form n with e | ⟨c, r, e, hc⟩
  · rw [e]; decide
  · rw [e]
    refine ⟨by simp, ?_⟩
    rw [List.length_cons]
    have h1 : digitsVal (c :: r) = n := by rw [← e]; exact dv_dg n
    have h2 := dv_ge r (0 * 10 + (c - 48))
    have h3 : r.foldl (fun acc c => acc * 10 + (c - 48)) (0 * 10 + (c - 48)) = n := h1
    rw [h3] at h2
    have h4 : 10 ^ r.length ≤ n := Nat.le_trans (by have := Nat.mul_le_mul_right (10 ^ r.length) (show 1 ≤ 0 * 10 + (c - 48) by omega); omega) h2
    have h5 : r.length < 9 := by
      apply Decidable.byContradiction
      intro hh
      have : (10 : Nat) ^ 9 ≤ 10 ^ r.length := Nat.pow_le_pow_right (by decide) (by omega)
      omega
    omega
theorem dv_small {cs : List Nat} (h : AllDigits cs) (hl : cs.length ≤ 9) : digitsVal cs < 10 ^ 9 := by
  have h1 := dv_lt cs 0 h
  have h2 : (10 : Nat) ^ cs.length ≤ 10 ^ 9 := Nat.pow_le_pow_right (by decide) hl
  have h3 : digitsVal cs < (0 + 1) * 10 ^ cs.length := h1
  omega
/-- the digits that stand in a word: none, 0, or none ahead of which 0 stands -/
def dsOk (ds : List Nat) : Prop := AllDigits ds ∧ ds.length ≤ 9 ∧ (ds = [] ∨ ds = [48] ∨ ∃ c r, ds = c :: r ∧ 49 ≤ c)
theorem dsOk.nil : dsOk [] := ⟨fun _ h => by simp at h, by simp, .inl rfl⟩
theorem dsOk.snoc {ds : List Nat} {c : Nat} (h : dsOk ds) (hc : 48 ≤ c ∧ c ≤ 57) (h1 : ds ≠ [48]) (h2 : ds.length < 9) : dsOk (ds ++ [c]) := by
  refine ⟨fun x hx => ?_, by simp; omega, ?_⟩
  · rcases List.mem_append.mp hx with z | z
    · exact h.1 x z
    · simp at z; subst z; exact hc
  · rcases h.2.2 with z | z | ⟨a, r, z, ha⟩
    · subst z
      by_cases e : c = 48
      · subst e; exact .inr (.inl rfl)
      · exact .inr (.inr ⟨c, [], rfl, by omega⟩)
    · exact absurd z h1
    · subst z; exact .inr (.inr ⟨a, r ++ [c], rfl, ha⟩)
theorem dsOk.dg {ds : List Nat} (h : dsOk ds) (h1 : ds ≠ []) : dg (digitsVal ds) = ds := dg_dv h.1 (h.2.2.resolve_left h1)
theorem dsOk.lt {ds : List Nat} (h : dsOk ds) : digitsVal ds < 10 ^ 9 := dv_small h.1 h.2.1
theorem dsOk.pos {ds : List Nat} (h : dsOk ds) (h1 : ds ≠ []) (h2 : ds ≠ [48]) : 0 < digitsVal ds := by
  rcases h.2.2 with z | z | ⟨a, r, z, ha⟩
  · exact absurd z h1
  · exact absurd z h2
  · rw [z]; exact digitsVal_pos ha
/-! values and words -/
inductive Wv where
  | non
  | num (n : Nat)
  | txt (s : Str)
  | tup (xs : List Wv)
mutual
def Wv.d : Wv → D
  | .non => .non
  | .num n => .int n
  | .txt s => .str s
  | .tup xs => .tup (Wv.ds xs)
def Wv.ds : List Wv → List D
  | [] => []
  | x :: xs => x.d :: Wv.ds xs
end
mutual
def Wv.w : Wv → List Nat
  | .non => [111]
  | .num n => 110 :: (dg n ++ [59])
  | .txt s => 116 :: (dg s.length ++ (58 :: s.cps.toList))
  | .tup xs => 40 :: (Wv.ws xs ++ [41])
def Wv.ws : List Wv → List Nat
  | [] => []
  | x :: xs => x.w ++ Wv.ws xs
end
mutual
def Wv.ok : Wv → Prop
  | .non => True
  | .num n => n < 10 ^ 9
  | .txt s => s.length < 10 ^ 9 ∧ ∀ c ∈ s.cps.toList, sgB c = true
  | .tup xs => Wv.oks xs
def Wv.oks : List Wv → Prop
  | [] => True
  | x :: xs => x.ok ∧ Wv.oks xs
end
mutual
def Wv.dep : Wv → Nat
  | .tup xs => Wv.deps xs + 1
  | _ => 0
def Wv.deps : List Wv → Nat
  | [] => 0
  | x :: xs => max x.dep (Wv.deps xs)
end
theorem Wv.ws_app : ∀ (a b : List Wv), Wv.ws (a ++ b) = Wv.ws a ++ Wv.ws b
  | [], b => rfl
  | x :: a, b => by simp only [List.cons_append, Wv.ws, Wv.ws_app a b, List.append_assoc]
theorem Wv.oks_app : ∀ {a b : List Wv}, Wv.oks a → Wv.oks b → Wv.oks (a ++ b)
  | [], b, _, h => h
  | x :: a, b, h1, h2 => ⟨h1.1, Wv.oks_app h1.2 h2⟩
theorem Wv.ds_map : ∀ xs : List Wv, Wv.ds xs = xs.map Wv.d
  | [] => rfl
  | x :: xs => by simp only [Wv.ds, List.map_cons, Wv.ds_map xs]
/-- the signs ( and ) -/
def pc (cs : List Nat) : Nat := (cs.filter fun c => c == 40 || c == 41).length
theorem pc_app (a b : List Nat) : pc (a ++ b) = pc a + pc b := by simp [pc]
theorem pc_cons (c : Nat) (b : List Nat) : pc (c :: b) = (if c = 40 ∨ c = 41 then 1 else 0) + pc b := by
  unfold pc
  by_cases h1 : c = 40
  · subst h1; simp; omega
  · by_cases h2 : c = 41
    · subst h2; simp; omega
    · simp [h1, h2]
mutual
theorem Wv.dep_pc : ∀ v : Wv, 2 * v.dep ≤ pc v.w
  | .non => by simp [Wv.dep]
  | .num n => by simp [Wv.dep]
  | .txt s => by simp [Wv.dep]
  | .tup xs => by
    have h := Wv.deps_pc xs
    simp only [Wv.dep, Wv.w, pc_cons, pc_app]
    simp
    simp only [pc] at h ⊢
    simp
    omega
theorem Wv.deps_pc : ∀ xs : List Wv, 2 * Wv.deps xs ≤ pc (Wv.ws xs)
  | [] => by simp [Wv.deps]
  | x :: xs => by
    have h1 := Wv.dep_pc x
    have h2 := Wv.deps_pc xs
    simp only [Wv.deps, Wv.ws, pc_app]
    omega
end
theorem pc_le (cs : List Nat) : pc cs ≤ cs.length := List.length_filter_le _ _
theorem pc_dg (n : Nat) : pc (dg n) = 0 := by
  unfold pc
  rw [List.length_eq_zero_iff, List.filter_eq_nil_iff]
  intro c hc
  have := dg_all n c hc
  simp; omega
/-! the reader -/
inductive Md where
  | val
  | num (ds : List Nat)
  | len (ds : List Nat)
  | txt (ds acc : List Nat)
  | over (v : Wv)
abbrev Rs := List (List Wv) × Md
def put : List (List Wv) → Wv → Rs
  | [], v => ([], .over v)
  | r :: rs, v => ((r ++ [v]) :: rs, .val)
def step : Rs → Nat → Option Rs
  | (rs, .val), c => if c = 111 then some (put rs .non) else if c = 40 then some ([] :: rs, .val) else if c = 41 then (match rs with
      | [] => none
      | r :: rs => some (put rs (.tup r))) else if c = 110 then some (rs, .num []) else if c = 116 then some (rs, .len []) else none
  | (rs, .num ds), c => if c = 59 ∧ ds ≠ [] then some (put rs (.num (digitsVal ds))) else if (48 ≤ c ∧ c ≤ 57) ∧ ds ≠ [48] ∧ ds.length < 9 then some (rs, .num (ds ++ [c])) else none
  | (rs, .len ds), c => if c = 58 ∧ ds ≠ [] then (if ds = [48] then some (put rs (.txt ⟨#[]⟩)) else some (rs, .txt ds [])) else if (48 ≤ c ∧ c ≤ 57) ∧ ds ≠ [48] ∧ ds.length < 9 then some (rs, .len (ds ++ [c])) else none
  | (rs, .txt ds acc), c => if acc.length + 1 = digitsVal ds then some (put rs (.txt ⟨(acc ++ [c]).toArray⟩)) else some (rs, .txt ds (acc ++ [c]))
  | (_, .over _), _ => none
def rowsW : List (List Wv) → List Nat
  | [] => []
  | r :: rs => rowsW rs ++ (40 :: Wv.ws r)
def Md.pre : Md → List Nat
  | .val => []
  | .num ds => 110 :: ds
  | .len ds => 116 :: ds
  | .txt ds acc => 116 :: (ds ++ (58 :: acc))
  | .over v => v.w
def pre (A : Rs) : List Nat := rowsW A.1 ++ A.2.pre
def Md.gd (rs : List (List Wv)) : Md → Prop
  | .val => True
  | .num ds => dsOk ds
  | .len ds => dsOk ds
  | .txt ds acc => dsOk ds ∧ ds ≠ [] ∧ ds ≠ [48] ∧ acc.length < digitsVal ds ∧ ∀ c ∈ acc, sgB c = true
  | .over v => rs = [] ∧ v.ok
def gd (A : Rs) : Prop := (∀ r ∈ A.1, Wv.oks r) ∧ A.2.gd A.1
theorem put_gd {rs : List (List Wv)} {v : Wv} (h : ∀ r ∈ rs, Wv.oks r) (hv : v.ok) : gd (put rs v) := by
  cases rs with
  | nil => exact ⟨fun r hr => by simp [put] at hr, rfl, hv⟩
  | cons r rs =>
    refine ⟨fun x hx => ?_, True.intro⟩
    simp only [put, List.mem_cons] at hx
    rcases hx with rfl | hx
    · exact Wv.oks_app (h r (.head _)) ⟨hv, True.intro⟩
    · exact h x (.tail _ hx)
theorem put_pre {rs : List (List Wv)} {v : Wv} : pre (put rs v) = rowsW rs ++ v.w := by
  cases rs with
  | nil => rfl
  | cons r rs => simp [pre, put, rowsW, Md.pre, Wv.ws_app, Wv.ws]
theorem step_gd {A B : Rs} {c : Nat} (hA : gd A) (hc : sgB c = true) (h : step A c = some B) : gd B ∧ pre B = pre A ++ [c] := by
  obtain ⟨rs, m⟩ := A
  obtain ⟨h1, h2⟩ := hA
  dsimp only at h1 h2
  cases m with
  | val =>
    simp only [step] at h
    split at h
    · rename_i e; subst e; cases h
      exact ⟨put_gd h1 True.intro, by rw [put_pre]; simp [pre, Md.pre, Wv.w]⟩
    split at h
    · rename_i e; subst e; cases h
      exact ⟨⟨fun r hr => by
        rcases List.mem_cons.mp hr with rfl | z
        · exact True.intro
        · exact h1 r z, True.intro⟩, by simp [pre, Md.pre, rowsW, Wv.ws]⟩
    split at h
    · rename_i e; subst e
      cases rs with
      | nil => cases h
      | cons r rs =>
        cases h
        exact ⟨put_gd (fun x hx => h1 x (.tail _ hx)) (h1 r (.head _)), by rw [put_pre]; simp [pre, Md.pre, rowsW, Wv.w]⟩
    split at h
    · rename_i e; subst e; cases h
      exact ⟨⟨h1, dsOk.nil⟩, by simp [pre, Md.pre]⟩
    split at h
    · rename_i e; subst e; cases h
      exact ⟨⟨h1, dsOk.nil⟩, by simp [pre, Md.pre]⟩
    · cases h
  | num ds =>
    have h2 : dsOk ds := h2
    simp only [step] at h
    split at h
    · rename_i e; cases h
      refine ⟨put_gd h1 h2.lt, ?_⟩
      rw [put_pre]
      simp only [Wv.w, h2.dg e.2, pre, Md.pre, e.1, List.append_assoc, List.cons_append]
    split at h
    · rename_i e; cases h
      exact ⟨⟨h1, h2.snoc e.1 e.2.1 e.2.2⟩, by simp [pre, Md.pre]⟩
    · cases h
  | len ds =>
    have h2 : dsOk ds := h2
    simp only [step] at h
    split at h
    · rename_i e
      split at h
      · rename_i e2; cases h
        refine ⟨put_gd h1 ⟨by decide, fun c hc => by simp at hc⟩, ?_⟩
        rw [put_pre, e2, e.1]
        simp only [pre, Md.pre, List.append_assoc]
        rfl
      · rename_i e2; cases h
        exact ⟨⟨h1, h2, e.2, e2, h2.pos e.2 e2, fun c hc => by simp at hc⟩, by simp [pre, Md.pre, e.1]⟩
    split at h
    · rename_i e; cases h
      exact ⟨⟨h1, h2.snoc e.1 e.2.1 e.2.2⟩, by simp [pre, Md.pre]⟩
    · cases h
  | txt ds acc =>
    obtain ⟨g1, g2, g3, g4, g5⟩ := (h2 : dsOk ds ∧ ds ≠ [] ∧ ds ≠ [48] ∧ acc.length < digitsVal ds ∧ ∀ c ∈ acc, sgB c = true)
    have g6 : ∀ x ∈ acc ++ [c], sgB x = true := fun x hx => by
      rcases List.mem_append.mp hx with z | z
      · exact g5 x z
      · simp at z; subst z; exact hc
    simp only [step] at h
    split at h
    · rename_i e; cases h
      have hl : (⟨(acc ++ [c]).toArray⟩ : Str).length = digitsVal ds := by
        show (acc ++ [c]).toArray.size = _
        simp; omega
      refine ⟨put_gd h1 ⟨by rw [hl]; exact g1.lt, g6⟩, ?_⟩
      rw [put_pre]
      simp only [Wv.w, hl, g1.dg g2, pre, Md.pre, List.append_assoc, List.cons_append]
    · rename_i e; cases h
      exact ⟨⟨h1, g1, g2, g3, by simp; omega, g6⟩, by simp [pre, Md.pre]⟩
  | over v => cases h
def runN : Rs → List Nat → Option Rs
  | A, [] => some A
  | A, c :: cs => (step A c).bind fun B => runN B cs
theorem runN_app : ∀ (a b : List Nat) (A : Rs), runN A (a ++ b) = (runN A a).bind fun B => runN B b
  | [], b, A => rfl
  | c :: a, b, A => by
    simp only [List.cons_append, runN]
    cases step A c with
    | none => rfl
    | some B => exact runN_app a b B
theorem runN_one {A B : Rs} {c : Nat} {cs : List Nat} (h : step A c = some B) : runN A (c :: cs) = runN B cs := by
  simp only [runN, h, Option.bind_some]
/-- digits, one behind another -/
theorem run_digits {F : List Nat → Md} (rs : List (List Wv)) (hF : ∀ ds c, (48 ≤ c ∧ c ≤ 57) ∧ ds ≠ [48] ∧ ds.length < 9 → step (rs, F ds) c = some (rs, F (ds ++ [c]))) : ∀ (cs ds rest : List Nat), AllDigits cs → ds.length + cs.length ≤ 9 → (cs = [] ∨ ds ≠ [48]) → (ds = [] → cs.length ≤ 1 ∨ cs.head? ≠ some 48) → runN (rs, F ds) (cs ++ rest) = runN (rs, F (ds ++ cs)) rest
  | [], ds, rest, _, _, _, _ => by simp
  | c :: cs, ds, rest, h, hl, h1, h2 => by
    simp only [List.length_cons] at hl
    have s1 := hF ds c ⟨h.head, h1.resolve_left (by simp), by omega⟩
    rw [List.cons_append, runN_one s1, run_digits rs hF cs (ds ++ [c]) rest h.tail (by simp; omega) ?_ (fun z => by simp at z)]
    · simp
    · by_cases e : cs = []
      · exact .inl e
      · refine .inr fun z => ?_
        cases ds with
        | nil =>
          simp at z
          subst z
          rcases h2 rfl with w | w
          · simp at w; exact e w
          · simp at w
        | cons a ds => simp at z
theorem run_dg {F : List Nat → Md} (rs : List (List Wv)) (hF : ∀ ds c, (48 ≤ c ∧ c ≤ 57) ∧ ds ≠ [48] ∧ ds.length < 9 → step (rs, F ds) c = some (rs, F (ds ++ [c]))) {n : Nat} (hn : n < 10 ^ 9) (rest : List Nat) : runN (rs, F []) (dg n ++ rest) = runN (rs, F (dg n)) rest := by
  have h := run_digits rs hF (dg n) [] rest (dg_all n) (by have := dg_len hn; simp; omega) (.inr (by simp)) fun _ => by
    rcases dg_form n with e | ⟨c, r, e, hc⟩
    · left; rw [e]; decide
    · right; rw [e]; simp; omega
  simpa using h
theorem dg_ne (n : Nat) : dg n ≠ [] := by
  rcases dg_form n with e | ⟨c, r, e, _⟩ <;> rw [e] <;> simp
theorem step_num {rs : List (List Wv)} (ds : List Nat) (c : Nat) (h : (48 ≤ c ∧ c ≤ 57) ∧ ds ≠ [48] ∧ ds.length < 9) : step (rs, .num ds) c = some (rs, .num (ds ++ [c])) := by
  simp only [step]
  rw [if_neg (by omega), if_pos h]
theorem step_len {rs : List (List Wv)} (ds : List Nat) (c : Nat) (h : (48 ≤ c ∧ c ≤ 57) ∧ ds ≠ [48] ∧ ds.length < 9) : step (rs, .len ds) c = some (rs, .len (ds ++ [c])) := by
  simp only [step]
  rw [if_neg (by omega), if_pos h]
theorem run_txt (rs : List (List Wv)) (ds : List Nat) : ∀ (cs acc rest : List Nat), cs ≠ [] → acc.length + cs.length = digitsVal ds → runN (rs, .txt ds acc) (cs ++ rest) = runN (put rs (.txt ⟨(acc ++ cs).toArray⟩)) rest
  | [], acc, rest, h, _ => absurd rfl h
  | c :: cs, acc, rest, _, hl => by
    simp only [List.length_cons] at hl
    by_cases e : cs = []
    · subst e
      have s1 : step (rs, .txt ds acc) c = some (put rs (.txt ⟨(acc ++ [c]).toArray⟩)) := by
        simp only [step]
        rw [if_pos (by simpa using hl)]
      rw [List.cons_append, runN_one s1]
      rfl
    · have s1 : step (rs, .txt ds acc) c = some (rs, .txt ds (acc ++ [c])) := by
        simp only [step]
        rw [if_neg (by have : 0 < cs.length := List.length_pos_iff.mpr e; omega)]
      rw [List.cons_append, runN_one s1, run_txt rs ds cs (acc ++ [c]) rest e (by simp; omega)]
      simp
mutual
theorem run_w : ∀ (v : Wv) (rs : List (List Wv)) (rest : List Nat), v.ok → runN (rs, .val) (v.w ++ rest) = runN (put rs v) rest
  | .non, rs, rest, _ => by
    simp only [Wv.w, List.cons_append, List.nil_append]
    exact runN_one (by simp [step])
  | .num n, rs, rest, h => by
    have h : n < 10 ^ 9 := h
    simp only [Wv.w, List.cons_append, List.append_assoc, List.nil_append]
    rw [runN_one (B := (rs, .num [])) (by simp [step]), run_dg rs step_num h]
    refine runN_one ?_
    simp only [step]
    simp [dg_ne n, dv_dg]
  | .txt s, rs, rest, h => by
    obtain ⟨h, _⟩ := (h : s.length < 10 ^ 9 ∧ _)
    simp only [Wv.w, List.cons_append, List.append_assoc, List.nil_append]
    rw [runN_one (B := (rs, .len [])) (by simp [step]), run_dg rs step_len h]
    by_cases e : dg s.length = [48]
    · have h0 : s.length = 0 := by
        have := dv_dg s.length
        rw [e] at this
        exact this.symm
      have h1 : s.cps.toList = [] := List.eq_nil_of_length_eq_zero (by rw [← str_len]; exact h0)
      have h2 : s = ⟨#[]⟩ := str_ext (by rw [h1])
      rw [h1, h2]
      refine runN_one ?_
      simp only [step]
      simp [show dg (⟨#[]⟩ : Str).length = [48] from rfl]
    · have s1 : step (rs, .len (dg s.length)) 58 = some (rs, .txt (dg s.length) []) := by
        simp only [step]
        simp [dg_ne, e]
      have h1 : s.cps.toList ≠ [] := fun z => e (by
        have : s.length = 0 := by rw [str_len, z]; rfl
        rw [this]; decide)
      rw [runN_one s1, run_txt rs _ _ [] rest h1 (by rw [dv_dg, str_len]; simp)]
      have : (⟨(([] : List Nat) ++ s.cps.toList).toArray⟩ : Str) = s := str_ext (by simp)
      rw [this]
  | .tup xs, rs, rest, h => by
    simp only [Wv.w, List.cons_append, List.append_assoc, List.nil_append]
    rw [runN_one (B := ([] :: rs, .val)) (by simp [step]), run_ws xs [] rs _ h]
    refine runN_one ?_
    simp [step]
theorem run_ws : ∀ (xs r : List Wv) (rs : List (List Wv)) (rest : List Nat), Wv.oks xs → runN (r :: rs, .val) (Wv.ws xs ++ rest) = runN ((r ++ xs) :: rs, .val) rest
  | [], r, rs, rest, _ => by simp [Wv.ws]
  | x :: xs, r, rs, rest, h => by
    simp only [Wv.ws, List.append_assoc]
    rw [run_w x (r :: rs) _ h.1]
    show runN ((r ++ [x]) :: rs, .val) _ = _
    rw [run_ws xs (r ++ [x]) rs rest h.2]
    simp
end
theorem read_w {v : Wv} (h : v.ok) : runN ([], .val) v.w = some ([], .over v) := by
  have := run_w v [] [] h
  rw [List.append_nil] at this
  exact this
theorem runN_gd : ∀ (cs : List Nat) (A B : Rs), gd A → (∀ c ∈ cs, sgB c = true) → runN A cs = some B → gd B ∧ pre B = pre A ++ cs
  | [], A, B, h, _, e => by cases e; exact ⟨h, by simp⟩
  | c :: cs, A, B, h, hc, e => by
    simp only [runN] at e
    cases q : step A c with
    | none => rw [q] at e; cases e
    | some A1 =>
      rw [q] at e
      obtain ⟨g1, g2⟩ := step_gd h (hc c (.head _)) q
      obtain ⟨g3, g4⟩ := runN_gd cs A1 B g1 (fun x hx => hc x (.tail _ hx)) e
      exact ⟨g3, by rw [g4, g2, List.append_assoc]; rfl⟩
theorem read_back {cs : List Nat} {rs : List (List Wv)} {v : Wv} (hc : ∀ c ∈ cs, sgB c = true) (e : runN ([], .val) cs = some (rs, .over v)) : v.ok ∧ v.w = cs := by
  obtain ⟨g1, g2⟩ := runN_gd cs ([], .val) _ ⟨fun r hr => by simp at hr, True.intro⟩ hc e
  obtain ⟨rfl, hv⟩ := (g1.2 : rs = [] ∧ v.ok)
  exact ⟨hv, g2⟩
end Lw

namespace Lw
open PySem L2 Vs VsEv
open PySem.NumText
theorem mMeth1_exc {i : Nat} {c m : Str} {f : FnM} {ρ : Vs.Env} {fs : List Str} {xs : List OD} {p : Bool} {fv : M OD} {a : OD} {y : XV} {x z : Option OD} (h : ρ[i]? = some (some (.o c fs xs))) (hm : fs.contains m = false) (ha : fv ρ = .ok a ρ) (e : f [.o c fs xs, .v a.fz] = .exc y [x, z]) : mMeth c m f (.plc i) [.val p fv] ρ = .exc y (ρ.set i x) := by
  have hi : i < ρ.length := (List.getElem?_eq_some_iff.mp h).1
  have h1 : okPl ρ [.plc i, .val p fv] = true := by simp [okPl, slotIs, h]
  unfold mMeth
  rw [if_pos h1]
  show (if isIns c m ρ (.plc i) = true then _ else _) = _
  have h2 : isIns c m ρ (.plc i) = true := by
    unfold isIns
    simp only [h, Option.join_some, beq_self_eq_true, hm, Bool.not_false, Bool.and_true]
  rw [if_pos h2]
  have h3 : evAll [.val p fv] ρ = .ok [.own a] ρ := by
    simp only [evAll, Opd.ev, ha, Out.bind_ok]
  rw [h3, Out.bind_ok]
  unfold doCall
  simp only [takeAll, h, Option.map_some, e]
  have h4 : (ρ.set i none)[i]? = some none := List.getElem?_set_self hi
  have h5 : putBack [.plc i, .own a] [x, z] (ρ.set i none) = ρ.set i x := by
    simp only [putBack, h4]
    rw [List.set_set]
  rw [h5]
theorem mMeth1_ok2 {i : Nat} {c m : Str} {f : FnM} {ρ ρ' : Vs.Env} {fs : List Str} {xs ys : List OD} {p : Bool} {fv : M OD} {a od : OD} {x y : Option OD} (h : ρ[i]? = some (some (.o c fs xs))) (hm : fs.contains m = false) (ha : fv ρ = .ok a ρ') (h' : ρ'[i]? = some (some (.o c fs ys))) (e : f [.o c fs ys, .v a.fz] = .ok od [x, y]) : mMeth c m f (.plc i) [.val p fv] ρ = .ok od (ρ'.set i x) := by
  have hi : i < ρ'.length := (List.getElem?_eq_some_iff.mp h').1
  have h1 : okPl ρ [.plc i, .val p fv] = true := by simp [okPl, slotIs, h]
  unfold mMeth
  rw [if_pos h1]
  show (if isIns c m ρ (.plc i) = true then _ else _) = _
  have h2 : isIns c m ρ (.plc i) = true := by
    unfold isIns
    simp only [h, Option.join_some, beq_self_eq_true, hm, Bool.not_false, Bool.and_true]
  rw [if_pos h2]
  have h3 : evAll [.val p fv] ρ = .ok [.own a] ρ' := by
    simp only [evAll, Opd.ev, ha, Out.bind_ok]
  rw [h3, Out.bind_ok]
  unfold doCall
  simp only [takeAll, h', Option.map_some, e]
  have h4 : (ρ'.set i none)[i]? = some none := List.getElem?_set_self hi
  have h5 : putBack [.plc i, .own a] [x, y] (ρ'.set i none) = ρ'.set i x := by
    simp only [putBack, h4]
    rw [List.set_set]
  rw [h5]
def bb (p : Nat) : XV := ⟨"BadByte", ["place"], [.int p]⟩
def mk (cs : List Nat) : Str := ⟨cs.toArray⟩
theorem mk_len (cs : List Nat) : (mk cs).length = cs.length := by show cs.toArray.size = _; simp
theorem mk_cps (cs : List Nat) : (mk cs).cps.toList = cs := by simp [mk]
theorem mk_app (cs : List Nat) (c : Nat) : mk cs ++ ch1 c = mk (cs ++ [c]) := str_ext (by
  show ((mk cs).cps ++ (ch1 c).cps).toList = _
  simp [mk, ch1])
theorem mk_ne {cs : List Nat} {s : Str} (h : s.cps.toList ≠ cs) : (mk cs = s) = False := eq_false fun e => h (by rw [← e, mk_cps])
def rowsO (rs : List (List Wv)) : List OD := rs.reverse.map fun r => .l (r.map fun v => .v v.d)
def wrT (p : Nat) (st : Str) (rs : List (List Wv)) (dgs txs : Str) (vl : D) : OD := wrO (.v (.int p)) (.v (.str st)) (.l (rowsO rs)) (.v (.str dgs)) (.v (.str txs)) (.v vl)
theorem rowsO_cons (r : List Wv) (rs : List (List Wv)) : rowsO (r :: rs) = rowsO rs ++ [.l (r.map fun v => .v v.d)] := by simp [rowsO]
theorem rowsO_nil : rowsO [] = [] := rfl
theorem rowsO_len (rs : List (List Wv)) : (rowsO rs).length = rs.length := by simp [rowsO]
theorem no_wr : ((["put", "fail", "take", "take_value", "take_digit", "end_digits"] : List Str).all fun m => !wrF.contains m) = true := by decide +kernel
theorem no_wr' {m : Str} (h : m ∈ (["put", "fail", "take", "take_value", "take_digit", "end_digits"] : List Str)) : wrF.contains m = false := by
  have := List.all_eq_true.mp no_wr m h
  simpa using this
def Rp (p : Nat) : Rs → OD → Prop
  | (rs, .val), T => ∃ dgs txs vl, T = wrT p "value" rs dgs txs vl
  | (rs, .num ds), T => ∃ txs vl, T = wrT p "n" rs (mk ds) txs vl
  | (rs, .len ds), T => ∃ txs vl, T = wrT p "t" rs (mk ds) txs vl
  | (rs, .txt ds acc), T => ∃ vl, T = wrT p "text" rs (mk ds) (mk acc) vl
  | (rs, .over v), T => ∃ dgs txs, T = wrT p "over" rs dgs txs v.d
section
variable {p : Nat} {st : Str} {rs : List (List Wv)} {dgs txs : Str} {vl : D} {a b c d e f : OD} {ρ : Vs.Env}
theorem t_rows : OD.at [.fld "WordReader" "rows"] (wrT p st rs dgs txs vl) = some (.l (rowsO rs)) := by unfold wrT; exact at_rows
theorem t_state : OD.at [.fld "WordReader" "state"] (wrT p st rs dgs txs vl) = some (.v (.str st)) := by unfold wrT; exact at_state
theorem t_digits : OD.at [.fld "WordReader" "digits"] (wrT p st rs dgs txs vl) = some (.v (.str dgs)) := by unfold wrT; exact at_digits
theorem t_text : OD.at [.fld "WordReader" "text"] (wrT p st rs dgs txs vl) = some (.v (.str txs)) := by unfold wrT; exact at_text
theorem t_value : OD.at [.fld "WordReader" "value"] (wrT p st rs dgs txs vl) = some (.v vl) := by unfold wrT; exact at_value
theorem t_place : OD.at [.fld "WordReader" "place"] (wrT p st rs dgs txs vl) = some (.v (.int p)) := by unfold wrT; exact at_place
theorem fail_e : F_WordReader_fail [wrT p st rs dgs txs vl] = .exc (bb p) [some (wrT p st rs dgs txs vl)] := by
  unfold F_WordReader_fail m_WordReader_fail wrT
  simp! only [zRaiseA_e, at_place]
  rfl
theorem put_e (v : Wv) (h : ∀ r ∈ rs, r.length ≤ 1000000) : ∃ T, F_WordReader_put [wrT p st rs dgs txs vl, .v v.d] = .ok (.v .non) [some T, none] ∧ Rp p (put rs v) T := by
  cases rs with
  | nil =>
    refine ⟨wrT p "over" [] dgs txs v.d, ?_, dgs, txs, rfl⟩
    unfold F_WordReader_put m_WordReader_put wrT
    rw [rowsO_nil]
    simp! only [bTruL_e, at_state, at_rows, set_state, set_value, List.isEmpty_nil, Bool.not_true, Bool.false_eq_true, if_false]
  | cons r rs =>
    refine ⟨wrT p "value" ((r ++ [v]) :: rs) dgs txs vl, ?_, dgs, txs, vl, rfl⟩
    unfold F_WordReader_put m_WordReader_put wrT
    rw [rowsO_cons, rowsO_cons]
    have hne : ((rowsO rs ++ [OD.l (r.map fun v => .v v.d)]).isEmpty) = false := by simp
    simp! only [bTruL_e, at_state, at_rows, set_state, set_value, hne, last_rows, apps_rows (show (r.map fun v => OD.v v.d).length < sizeLine from small_line' (by simpa using h r (.head _))), List.map_append]
/-- the digits as they stand -/
theorem int_mk {ds : List Nat} (h : dsOk ds) (h1 : ds ≠ []) : opInt [.str (mk ds)] = some (.v (.int (digitsVal ds))) := by
  have hl : (mk ds).length ≤ 9 := by rw [mk_len]; exact h.2.1
  have e := intText_digits (x := mk ds) (by rw [mk_cps]; exact h.1) (by rw [mk_cps]; exact h1) (by omega)
  rw [mk_cps] at e
  unfold opInt dInt
  simp only [if_pos (show (mk ds).length ≤ 640 by omega), e, Option.map_some]
theorem mk_nil : mk [] = ("" : Str) := rfl
theorem mk_e {ds : List Nat} (h : ds ≠ []) : (mk ds = ("" : Str)) = False := mk_ne (fun e => h (by rw [← e]; rfl))
theorem mk_z {ds : List Nat} : (mk ds = ("0" : Str)) = (ds = [48]) := propext ⟨fun e => by
  have := congrArg (fun s : Str => s.cps.toList) e
  rw [mk_cps] at this; exact this, fun e => by rw [e]; rfl⟩
theorem mk_e' {ds : List Nat} : (mk ds = ("" : Str)) = (ds = []) := propext ⟨fun e => by
  have := congrArg (fun s : Str => s.cps.toList) e
  rw [mk_cps] at this; exact this, fun e => by rw [e]; rfl⟩
theorem dig_in {c : Nat} : opIn false [.str (ch1 c), .str "0123456789"] = some (.v (.bl (decide (48 ≤ c ∧ c ≤ 57)))) := by
  unfold ch1
  rw [opIn_1]
  have : (c ∈ ("0123456789" : Str).cps.toList) ↔ (48 ≤ c ∧ c ≤ 57) := by
    show c ∈ [48, 49, 50, 51, 52, 53, 54, 55, 56, 57] ↔ _
    simp only [List.mem_cons, List.not_mem_nil, or_false]
    omega
  simp [this]
theorem valO (p : Nat) : Vs.opLen [.str (mk [])] = some (.v (.int 0)) := rfl
theorem tv_e {c : Nat} (h : ∀ r ∈ rs, r.length ≤ 1000000) (hr : rs.length < 1000000) : match step (rs, .val) c with
    | some B => ∃ T, F_WordReader_take_value [wrT p "value" rs dgs txs vl, .v (.str (ch1 c))] = .ok (.v .non) [some T, none] ∧ Rp p B T
    | none => F_WordReader_take_value [wrT p "value" rs dgs txs vl, .v (.str (ch1 c))] = .exc (bb p) [some (wrT p "value" rs dgs txs vl), none] := by
  simp only [step]
  by_cases h1 : c = 111
  · subst h1
    rw [if_pos rfl]
    obtain ⟨T, e, r⟩ := put_e (p := p) (st := "value") (dgs := dgs) (txs := txs) (vl := vl) .non h
    refine ⟨T, ?_, r⟩
    have q := mMeth1_ok (i := 0) (c := "WordReader") (m := "put") (p := true) (fv := mC .non) (ρ := [some (wrT p "value" rs dgs txs vl), some (.v (.str (ch1 111)))]) (a := .v .non) rfl (no_wr' (by simp)) (by simp! only []) e
    unfold F_WordReader_take_value m_WordReader_take_value
    simp! only [q]
  rw [if_neg h1]
  by_cases h2 : c = 40
  · subst h2
    rw [if_pos rfl]
    refine ⟨wrT p "value" ([] :: rs) dgs txs vl, ?_, dgs, txs, vl, rfl⟩
    unfold F_WordReader_take_value m_WordReader_take_value wrT
    rw [rowsO_cons]
    simp! only [at_rows, app_rows (show (rowsO rs).length < sizeLine from small_line' (by rw [rowsO_len]; omega)), List.map_nil]
  rw [if_neg h2]
  by_cases h3 : c = 41
  · subst h3
    rw [if_pos rfl]
    cases rs with
    | nil =>
      have q := mMeth0_exc (i := 0) (c := "WordReader") (m := "fail") (ρ := [some (wrT p "value" [] dgs txs vl), some (.v (.str (ch1 41)))]) rfl (no_wr' (by simp)) (fail_e (p := p) (st := "value") (rs := []) (dgs := dgs) (txs := txs) (vl := vl))
      unfold F_WordReader_take_value m_WordReader_take_value
      simp! only [bTruL_e, t_rows, rowsO_nil, q, List.isEmpty_nil, Bool.not_true, Bool.false_eq_true, if_false]
    | cons r rs =>
      obtain ⟨T, e, rp⟩ := put_e (p := p) (st := "value") (rs := rs) (dgs := dgs) (txs := txs) (vl := vl) (.tup r) (fun x hx => h x (.tail _ hx))
      refine ⟨T, ?_, rp⟩
      have e2 : (rowsO (r :: rs)).isEmpty = false := by rw [rowsO_cons]; simp
      have e3 : mApp opTuple [.val false (mPop 0 [.fld "WordReader" "rows"])] [some (wrT p "value" (r :: rs) dgs txs vl), some (.v (.str (ch1 41)))] = .ok (.v (Wv.tup r).d) [some (wrT p "value" rs dgs txs vl), some (.v (.str (ch1 41)))] := by
        have e4 : popP (some (wrT p "value" (r :: rs) dgs txs vl)) 0 [.fld "WordReader" "rows"] [some (wrT p "value" (r :: rs) dgs txs vl), some (.v (.str (ch1 41)))] = .ok (.l (r.map fun v => .v v.d)) [some (wrT p "value" rs dgs txs vl), some (.v (.str (ch1 41)))] := by
          unfold wrT
          rw [rowsO_cons]
          exact pop_rows
        have e5 : (OD.l (r.map fun v => .v v.d)).fz = .lst (r.map Wv.d) := by
          simp [OD.fz, OD.fzs_map]
        simp! only [mPop_e, e4, e5]
        simp [Wv.d, Wv.ds_map]
      have q := mMeth1_ok2 (i := 0) (c := "WordReader") (m := "put") (p := false) rfl (no_wr' (by simp)) e3 rfl e
      unfold F_WordReader_take_value m_WordReader_take_value
      simp! only [bTruL_e, t_rows, e2, q, Bool.not_false]
  rw [if_neg h3]
  by_cases h4 : c = 110
  · subst h4
    rw [if_pos rfl]
    refine ⟨wrT p "n" rs (mk []) txs vl, ?_, txs, vl, rfl⟩
    unfold F_WordReader_take_value m_WordReader_take_value wrT
    simp! only [set_state, set_digits]
    rfl
  rw [if_neg h4]
  by_cases h5 : c = 116
  · subst h5
    rw [if_pos rfl]
    refine ⟨wrT p "t" rs (mk []) txs vl, ?_, txs, vl, rfl⟩
    unfold F_WordReader_take_value m_WordReader_take_value wrT
    simp! only [set_state, set_digits]
    rfl
  rw [if_neg h5]
  have q := mMeth0_exc (i := 0) (c := "WordReader") (m := "fail") (ρ := [some (wrT p "value" rs dgs txs vl), some (.v (.str (ch1 c)))]) rfl (no_wr' (by simp)) (fail_e (p := p) (st := "value") (rs := rs) (dgs := dgs) (txs := txs) (vl := vl))
  unfold F_WordReader_take_value m_WordReader_take_value
  simp! only [q, h1, h2, h3, h4, h5]
end
end Lw

namespace Lw
open PySem L2 Vs VsEv
open PySem.NumText
section
variable {p : Nat} {st : Str} {rs : List (List Wv)} {dgs txs : Str} {vl : D} {ds acc : List Nat} {c : Nat} {ρ : Vs.Env}
theorem ed_num (h : ∀ r ∈ rs, r.length ≤ 1000000) (hd : dsOk ds) (h1 : ds ≠ []) : ∃ T, F_WordReader_end_digits [wrT p "n" rs (mk ds) txs vl] = .ok (.v .non) [some T] ∧ Rp p (put rs (.num (digitsVal ds))) T := by
  obtain ⟨T, e, r⟩ := put_e (p := p) (st := "n") (dgs := mk ds) (txs := txs) (vl := vl) (.num (digitsVal ds)) h
  refine ⟨T, ?_, r⟩
  have q := mMeth1_ok (i := 0) (c := "WordReader") (m := "put") (p := true) (fv := mApp opInt [.val true (mGet 0 [.fld "WordReader" "digits"])]) (ρ := [some (wrT p "n" rs (mk ds) txs vl)]) (a := .v (.int (digitsVal ds))) rfl (no_wr' (by simp)) (by simp! only [t_digits, int_mk hd h1]) e
  unfold F_WordReader_end_digits m_WordReader_end_digits
  simp! only [t_state, q]
theorem ed_len (h : ∀ r ∈ rs, r.length ≤ 1000000) : ∃ T, F_WordReader_end_digits [wrT p "t" rs (mk ds) txs vl] = .ok (.v .non) [some T] ∧ Rp p (if ds = [48] then put rs (.txt ⟨#[]⟩) else (rs, .txt ds [])) T := by
  by_cases h1 : ds = [48]
  · rw [if_pos h1]
    obtain ⟨T, e, r⟩ := put_e (p := p) (st := "t") (dgs := mk ds) (txs := txs) (vl := vl) (.txt ⟨#[]⟩) h
    refine ⟨T, ?_, r⟩
    have q := mMeth1_ok (i := 0) (c := "WordReader") (m := "put") (p := true) (fv := mC (.str "")) (ρ := [some (wrT p "t" rs (mk ds) txs vl)]) (a := .v (.str "")) rfl (no_wr' (by simp)) (by simp! only []) e
    unfold F_WordReader_end_digits m_WordReader_end_digits
    simp! only [t_state, t_digits, q, mk_z, h1]
    subst h1
    simp! only [q]
  · rw [if_neg h1]
    refine ⟨wrT p "text" rs (mk ds) (mk []) vl, ?_, vl, rfl⟩
    unfold F_WordReader_end_digits m_WordReader_end_digits
    simp! only [t_state, t_digits, mk_z, h1]
    unfold wrT
    simp! only [set_text, set_state]
    rfl
theorem td_num (h : ∀ r ∈ rs, r.length ≤ 1000000) (hd : dsOk ds) : match step (rs, .num ds) c with
    | some B => ∃ T, F_WordReader_take_digit [wrT p "n" rs (mk ds) txs vl, .v (.str (ch1 c))] = .ok (.v .non) [some T, none] ∧ Rp p B T
    | none => F_WordReader_take_digit [wrT p "n" rs (mk ds) txs vl, .v (.str (ch1 c))] = .exc (bb p) [some (wrT p "n" rs (mk ds) txs vl), none] := by
  simp only [step]
  have hl : (mk ds).length = ds.length := mk_len ds
  have hline : (mk ds).length ≤ sizeLine := small_line (by have := hd.2.1; omega)
  have ol := opLen_str hline
  by_cases h1 : c = 59 ∧ ds ≠ []
  · rw [if_pos h1]
    obtain ⟨T, e, r⟩ := ed_num (p := p) (txs := txs) (vl := vl) h hd h1.2
    refine ⟨T, ?_, r⟩
    have q := mMeth0_ok (i := 0) (c := "WordReader") (m := "end_digits") (ρ := [some (wrT p "n" rs (mk ds) txs vl), some (.v (.str (ch1 59))), some (.v (.str ";"))]) rfl (no_wr' (by simp)) e
    obtain ⟨rfl, h2⟩ := h1
    unfold F_WordReader_take_digit m_WordReader_take_digit
    simp! only [t_state, t_digits, mk_e', h2, q]
  rw [if_neg h1]
  have q := mMeth0_exc (i := 0) (c := "WordReader") (m := "fail") (ρ := [some (wrT p "n" rs (mk ds) txs vl), some (.v (.str (ch1 c))), some (.v (.str ";"))]) rfl (no_wr' (by simp)) (fail_e (p := p) (st := "n") (rs := rs) (dgs := mk ds) (txs := txs) (vl := vl))
  have ap := opAdd_str (x := mk ds) (y := ch1 c) (by have : sizeLine = 16777216 := rfl; have : (ch1 c).length = 1 := rfl; have := hd.2.1; omega)
  rw [mk_app] at ap
  by_cases h2 : c = 59
  · have h3 : ds = [] := Decidable.byContradiction fun z => h1 ⟨h2, z⟩
    subst h2
    rw [if_neg (by omega)]
    unfold F_WordReader_take_digit m_WordReader_take_digit c_DIGITS
    simp! only [t_state, t_digits, mk_e', h3, dig_in, show (decide (48 ≤ 59 ∧ 59 ≤ 57)) = false by decide]
    subst h3
    simp! only [q]
  · by_cases h3 : 48 ≤ c ∧ c ≤ 57
    · by_cases h4 : ds = [48]
      · rw [if_neg (fun z => z.2.1 h4)]
        unfold F_WordReader_take_digit m_WordReader_take_digit c_DIGITS
        simp! only [t_state, t_digits, mk_z, h4, dig_in, h2, h3]
        subst h4
        simp! only [q]
      · by_cases h5 : ds.length < 9
        · rw [if_pos ⟨h3, h4, h5⟩]
          refine ⟨wrT p "n" rs (mk (ds ++ [c])) txs vl, ?_, txs, vl, rfl⟩
          unfold F_WordReader_take_digit m_WordReader_take_digit c_DIGITS c_MOST_DIGITS
          simp! only [t_state, t_digits, mk_z, h4, dig_in, h2, h3, ol, hl, show ((ds.length : Int) < 9) by omega, ap]
          unfold wrT
          simp! only [set_digits]
        · rw [if_neg (fun z => h5 z.2.2)]
          unfold F_WordReader_take_digit m_WordReader_take_digit c_DIGITS c_MOST_DIGITS
          simp! only [t_state, t_digits, mk_z, h4, dig_in, h2, h3, ol, hl, show ¬ ((ds.length : Int) < 9) by omega, q]
    · rw [if_neg (fun z => h3 z.1)]
      unfold F_WordReader_take_digit m_WordReader_take_digit c_DIGITS
      simp! only [t_state, t_digits, dig_in, h2, h3, q]
theorem td_len (h : ∀ r ∈ rs, r.length ≤ 1000000) (hd : dsOk ds) : match step (rs, .len ds) c with
    | some B => ∃ T, F_WordReader_take_digit [wrT p "t" rs (mk ds) txs vl, .v (.str (ch1 c))] = .ok (.v .non) [some T, none] ∧ Rp p B T
    | none => F_WordReader_take_digit [wrT p "t" rs (mk ds) txs vl, .v (.str (ch1 c))] = .exc (bb p) [some (wrT p "t" rs (mk ds) txs vl), none] := by
  simp only [step]
  have hl : (mk ds).length = ds.length := mk_len ds
  have hline : (mk ds).length ≤ sizeLine := small_line (by have := hd.2.1; omega)
  have ol := opLen_str hline
  by_cases h1 : c = 58 ∧ ds ≠ []
  · rw [if_pos h1]
    obtain ⟨T, e, r⟩ := ed_len (p := p) (txs := txs) (vl := vl) (ds := ds) h
    by_cases h0 : ds = [48] <;> (first | rw [if_pos h0] at r ⊢ | rw [if_neg h0] at r ⊢) <;> refine ⟨T, ?_, r⟩
    all_goals
     have q := mMeth0_ok (i := 0) (c := "WordReader") (m := "end_digits") (ρ := [some (wrT p "t" rs (mk ds) txs vl), some (.v (.str (ch1 58))), some (.v (.str ":"))]) rfl (no_wr' (by simp)) e
     obtain ⟨rfl, h2⟩ := h1
     unfold F_WordReader_take_digit m_WordReader_take_digit
     simp! only [t_state, t_digits, mk_e', h2, q]
  rw [if_neg h1]
  have q := mMeth0_exc (i := 0) (c := "WordReader") (m := "fail") (ρ := [some (wrT p "t" rs (mk ds) txs vl), some (.v (.str (ch1 c))), some (.v (.str ":"))]) rfl (no_wr' (by simp)) (fail_e (p := p) (st := "t") (rs := rs) (dgs := mk ds) (txs := txs) (vl := vl))
  have ap := opAdd_str (x := mk ds) (y := ch1 c) (by have : sizeLine = 16777216 := rfl; have : (ch1 c).length = 1 := rfl; have := hd.2.1; omega)
  rw [mk_app] at ap
  by_cases h2 : c = 58
  · have h3 : ds = [] := Decidable.byContradiction fun z => h1 ⟨h2, z⟩
    subst h2
    rw [if_neg (by omega)]
    unfold F_WordReader_take_digit m_WordReader_take_digit c_DIGITS
    simp! only [t_state, t_digits, mk_e', h3, dig_in, show (decide (48 ≤ 58 ∧ 58 ≤ 57)) = false by decide]
    subst h3
    simp! only [q]
  · by_cases h3 : 48 ≤ c ∧ c ≤ 57
    · by_cases h4 : ds = [48]
      · rw [if_neg (fun z => z.2.1 h4)]
        unfold F_WordReader_take_digit m_WordReader_take_digit c_DIGITS
        simp! only [t_state, t_digits, mk_z, h4, dig_in, h2, h3]
        subst h4
        simp! only [q]
      · by_cases h5 : ds.length < 9
        · rw [if_pos ⟨h3, h4, h5⟩]
          refine ⟨wrT p "t" rs (mk (ds ++ [c])) txs vl, ?_, txs, vl, rfl⟩
          unfold F_WordReader_take_digit m_WordReader_take_digit c_DIGITS c_MOST_DIGITS
          simp! only [t_state, t_digits, mk_z, h4, dig_in, h2, h3, ol, hl, show ((ds.length : Int) < 9) by omega, ap]
          unfold wrT
          simp! only [set_digits]
        · rw [if_neg (fun z => h5 z.2.2)]
          unfold F_WordReader_take_digit m_WordReader_take_digit c_DIGITS c_MOST_DIGITS
          simp! only [t_state, t_digits, mk_z, h4, dig_in, h2, h3, ol, hl, show ¬ ((ds.length : Int) < 9) by omega, q]
    · rw [if_neg (fun z => h3 z.1)]
      unfold F_WordReader_take_digit m_WordReader_take_digit c_DIGITS
      simp! only [t_state, t_digits, dig_in, h2, h3, q]
end
end Lw

namespace Lw
open PySem L2 Vs VsEv
open PySem.NumText
theorem w_pos (v : Wv) : 1 ≤ v.w.length := by cases v <;> simp [Wv.w]
theorem ws_len : ∀ xs : List Wv, xs.length ≤ (Wv.ws xs).length
  | [] => by simp
  | x :: xs => by
    have h1 := w_pos x
    have h2 := ws_len xs
    simp only [Wv.ws, List.length_cons, List.length_append]
    omega
theorem rowsW_len : ∀ rs : List (List Wv), rs.length ≤ (rowsW rs).length ∧ ∀ r ∈ rs, r.length ≤ (rowsW rs).length
  | [] => by simp
  | r :: rs => by
    obtain ⟨h1, h2⟩ := rowsW_len rs
    have h3 := ws_len r
    simp only [rowsW, List.length_append, List.length_cons]
    refine ⟨by omega, fun x hx => ?_⟩
    rcases List.mem_cons.mp hx with rfl | hx
    · omega
    · have := h2 x hx; omega
theorem Rp.up {p : Nat} {B : Rs} {T : OD} (h : Rp p B T) : ∃ st rs dgs txs vl, T = wrT p st rs dgs txs vl ∧ Rp (p + 1) B (wrT (p + 1) st rs dgs txs vl) := by
  obtain ⟨rs, m⟩ := B
  cases m with
  | val => obtain ⟨a, b, c, rfl⟩ := h; exact ⟨_, _, _, _, _, rfl, a, b, c, rfl⟩
  | num ds => obtain ⟨a, b, rfl⟩ := h; exact ⟨_, _, _, _, _, rfl, a, b, rfl⟩
  | len ds => obtain ⟨a, b, rfl⟩ := h; exact ⟨_, _, _, _, _, rfl, a, b, rfl⟩
  | txt ds acc => obtain ⟨a, rfl⟩ := h; exact ⟨_, _, _, _, _, rfl, a, rfl⟩
  | over v => obtain ⟨a, b, rfl⟩ := h; exact ⟨_, _, _, _, _, rfl, a, b, rfl⟩
section
variable {p : Nat} {st : Str} {rs : List (List Wv)} {dgs txs : Str} {vl : D} {ds acc : List Nat} {c : Nat} {ρ : Vs.Env} {T : OD}
theorem aug_place {i : Nat} : setFP i "WordReader" "place" (.v (.int ((p : Int) + 1))) ρ (some (wrT p st rs dgs txs vl)) = .ok .nx (ρ.set i (some (wrT (p + 1) st rs dgs txs vl))) := by
  unfold wrT
  exact set_place
theorem sgD_ch (h : sgB c = true) : sgD (c : Int) = .str (ch1 c) := by
  have h := (show (decide (c = 9) || decide (c = 10) || (decide (32 ≤ c) && decide (c ≤ 126) && decide (c ≠ 37))) = true from h)
  simp only [Bool.or_eq_true, Bool.and_eq_true, decide_eq_true_eq] at h
  unfold sgD
  rw [if_pos (by omega)]
  rfl
/-- take, by the state's word -/
theorem take_val (hg : sgB c = true) {T' : OD} (k : F_WordReader_take_value [wrT p "value" rs dgs txs vl, .v (.str (ch1 c))] = .ok (.v .non) [some T', none]) {st' : Str} {rs' : List (List Wv)} {dgs' txs' : Str} {vl' : D} (hT : T' = wrT p st' rs' dgs' txs' vl') : F_WordReader_take [wrT p "value" rs dgs txs vl, .v (.int c)] = .ok (.v .non) [some (wrT (p + 1) st' rs' dgs' txs' vl'), none] := by
  subst hT
  have q := mMeth1_ok (i := 0) (c := "WordReader") (m := "take_value") (p := true) (fv := mVar 2) (ρ := [some (wrT p "value" rs dgs txs vl), some (.v (.int c)), some (.v (.str (ch1 c)))]) (a := .v (.str (ch1 c))) rfl (no_wr' (by simp)) (by simp! only []) k
  unfold F_WordReader_take m_WordReader_take
  simp! only [sign_of_e, sgD_ch hg, t_state, q, t_place, aug_place]
theorem take_valX (hg : sgB c = true) (k : F_WordReader_take_value [wrT p "value" rs dgs txs vl, .v (.str (ch1 c))] = .exc (bb p) [some (wrT p "value" rs dgs txs vl), none]) : F_WordReader_take [wrT p "value" rs dgs txs vl, .v (.int c)] = .exc (bb p) [some (wrT p "value" rs dgs txs vl), none] := by
  have q := mMeth1_exc (i := 0) (c := "WordReader") (m := "take_value") (p := true) (fv := mVar 2) (ρ := [some (wrT p "value" rs dgs txs vl), some (.v (.int c)), some (.v (.str (ch1 c)))]) (a := .v (.str (ch1 c))) rfl (no_wr' (by simp)) (by simp! only []) k
  unfold F_WordReader_take m_WordReader_take
  simp! only [sign_of_e, sgD_ch hg, t_state, q]
theorem take_dig (hg : sgB c = true) (hs : st = "n" ∨ st = "t") {T' : OD} (k : F_WordReader_take_digit [wrT p st rs dgs txs vl, .v (.str (ch1 c))] = .ok (.v .non) [some T', none]) {st' : Str} {rs' : List (List Wv)} {dgs' txs' : Str} {vl' : D} (hT : T' = wrT p st' rs' dgs' txs' vl') : F_WordReader_take [wrT p st rs dgs txs vl, .v (.int c)] = .ok (.v .non) [some (wrT (p + 1) st' rs' dgs' txs' vl'), none] := by
  subst hT
  have q := mMeth1_ok (i := 0) (c := "WordReader") (m := "take_digit") (p := true) (fv := mVar 2) (ρ := [some (wrT p st rs dgs txs vl), some (.v (.int c)), some (.v (.str (ch1 c)))]) (a := .v (.str (ch1 c))) rfl (no_wr' (by simp)) (by simp! only []) k
  unfold F_WordReader_take m_WordReader_take
  rcases hs with rfl | rfl
  · simp! only [sign_of_e, sgD_ch hg, t_state, q, t_place, aug_place]
  · simp! only [sign_of_e, sgD_ch hg, t_state, q, t_place, aug_place]
theorem take_digX (hg : sgB c = true) (hs : st = "n" ∨ st = "t") (k : F_WordReader_take_digit [wrT p st rs dgs txs vl, .v (.str (ch1 c))] = .exc (bb p) [some (wrT p st rs dgs txs vl), none]) : F_WordReader_take [wrT p st rs dgs txs vl, .v (.int c)] = .exc (bb p) [some (wrT p st rs dgs txs vl), none] := by
  have q := mMeth1_exc (i := 0) (c := "WordReader") (m := "take_digit") (p := true) (fv := mVar 2) (ρ := [some (wrT p st rs dgs txs vl), some (.v (.int c)), some (.v (.str (ch1 c)))]) (a := .v (.str (ch1 c))) rfl (no_wr' (by simp)) (by simp! only []) k
  unfold F_WordReader_take m_WordReader_take
  rcases hs with rfl | rfl
  · simp! only [sign_of_e, sgD_ch hg, t_state, q]
  · simp! only [sign_of_e, sgD_ch hg, t_state, q]
theorem take_over (hg : sgB c = true) : F_WordReader_take [wrT p "over" rs dgs txs vl, .v (.int c)] = .exc (bb p) [some (wrT p "over" rs dgs txs vl), none] := by
  have q := mMeth0_exc (i := 0) (c := "WordReader") (m := "fail") (ρ := [some (wrT p "over" rs dgs txs vl), some (.v (.int c)), some (.v (.str (ch1 c)))]) rfl (no_wr' (by simp)) fail_e
  unfold F_WordReader_take m_WordReader_take
  simp! only [sign_of_e, sgD_ch hg, t_state, q]
theorem take_bad {i : Int} (hg : sgD i = .non) : F_WordReader_take [wrT p st rs dgs txs vl, .v (.int i)] = .exc (bb p) [some (wrT p st rs dgs txs vl), none] := by
  have q := mMeth0_exc (i := 0) (c := "WordReader") (m := "fail") (ρ := [some (wrT p st rs dgs txs vl), some (.v (.int i)), some (.v .non)]) rfl (no_wr' (by simp)) fail_e
  unfold F_WordReader_take m_WordReader_take
  simp! only [sign_of_e, hg, q]
theorem take_txt (hg : sgB c = true) (h : ∀ r ∈ rs, r.length ≤ 1000000) (hd : dsOk ds) (h1 : ds ≠ []) (ha : acc.length < 1000000) : ∃ T, F_WordReader_take [wrT p "text" rs (mk ds) (mk acc) vl, .v (.int c)] = .ok (.v .non) [some T, none] ∧ Rp (p + 1) (if acc.length + 1 = digitsVal ds then put rs (.txt ⟨(acc ++ [c]).toArray⟩) else (rs, .txt ds (acc ++ [c]))) T := by
  have ap := opAdd_str (x := mk acc) (y := ch1 c) (by have : sizeLine = 16777216 := rfl; have : (ch1 c).length = 1 := rfl; have := mk_len acc; omega)
  rw [mk_app] at ap
  have hl : (mk (acc ++ [c])).length = acc.length + 1 := by rw [mk_len]; simp
  have ol := opLen_str (s := mk (acc ++ [c])) (small_line (by omega))
  have hi := int_mk hd h1
  by_cases h2 : acc.length + 1 = digitsVal ds
  · rw [if_pos h2]
    obtain ⟨T', e, r⟩ := put_e (p := p) (st := "text") (dgs := mk ds) (txs := mk (acc ++ [c])) (vl := vl) (.txt ⟨(acc ++ [c]).toArray⟩) h
    obtain ⟨st', rs', dgs', txs', vl', rfl, r2⟩ := r.up
    refine ⟨_, ?_, r2⟩
    have q := mMeth1_ok (i := 0) (c := "WordReader") (m := "put") (p := true) (fv := mGet 0 [.fld "WordReader" "text"]) (ρ := [some (wrT p "text" rs (mk ds) (mk (acc ++ [c])) vl), some (.v (.int c)), some (.v (.str (ch1 c)))]) (a := .v (.str (mk (acc ++ [c])))) rfl (no_wr' (by simp)) (by simp! only [t_text]) e
    have sx : ∀ ρ : Vs.Env, setFP 0 "WordReader" "text" (.v (.str (mk (acc ++ [c])))) ρ (some (wrT p "text" rs (mk ds) (mk acc) vl)) = .ok .nx (ρ.set 0 (some (wrT p "text" rs (mk ds) (mk (acc ++ [c])) vl))) := fun ρ => by
      unfold wrT; exact set_text
    unfold F_WordReader_take m_WordReader_take
    simp! only [sign_of_e, sgD_ch hg, t_state, t_text, t_digits, ap, sx, ol, hl, hi, show (((acc.length + 1 : Nat) : Int) = (digitsVal ds : Nat)) by omega, q, t_place, aug_place]
  · rw [if_neg h2]
    refine ⟨wrT (p + 1) "text" rs (mk ds) (mk (acc ++ [c])) vl, ?_, vl, rfl⟩
    have sx : ∀ ρ : Vs.Env, setFP 0 "WordReader" "text" (.v (.str (mk (acc ++ [c])))) ρ (some (wrT p "text" rs (mk ds) (mk acc) vl)) = .ok .nx (ρ.set 0 (some (wrT p "text" rs (mk ds) (mk (acc ++ [c])) vl))) := fun ρ => by
      unfold wrT; exact set_text
    unfold F_WordReader_take m_WordReader_take
    simp! only [sign_of_e, sgD_ch hg, t_state, t_text, t_digits, ap, sx, ol, hl, hi, show ¬ (((acc.length + 1 : Nat) : Int) = (digitsVal ds : Nat)) by omega, t_place, aug_place]
end
theorem take_e {p c : Nat} {A : Rs} {T : OD} (hA : gd A) (hl : (pre A).length < 1000000) (hR : Rp p A T) (hg : sgB c = true) : match step A c with
    | some B => ∃ T', F_WordReader_take [T, .v (.int c)] = .ok (.v .non) [some T', none] ∧ Rp (p + 1) B T'
    | none => F_WordReader_take [T, .v (.int c)] = .exc (bb p) [some T, none] := by
  obtain ⟨rs, m⟩ := A
  have hp : (rowsW rs).length + m.pre.length < 1000000 := by simpa [pre] using hl
  obtain ⟨l1, l2⟩ := rowsW_len rs
  have hrs : ∀ r ∈ rs, r.length ≤ 1000000 := fun r hr => by have := l2 r hr; omega
  cases m with
  | val =>
    obtain ⟨dgs, txs, vl, rfl⟩ := hR
    have k := tv_e (p := p) (rs := rs) (dgs := dgs) (txs := txs) (vl := vl) (c := c) hrs (by omega)
    cases q : step (rs, .val) c with
    | none => rw [q] at k; exact take_valX hg k
    | some B =>
      rw [q] at k
      obtain ⟨T', e, r⟩ := k
      obtain ⟨st', rs', dgs', txs', vl', hT, r2⟩ := r.up
      exact ⟨_, take_val hg e hT, r2⟩
  | num ds =>
    obtain ⟨txs, vl, rfl⟩ := hR
    have k := td_num (p := p) (rs := rs) (txs := txs) (vl := vl) (c := c) hrs (show dsOk ds from hA.2)
    cases q : step (rs, .num ds) c with
    | none => rw [q] at k; exact take_digX hg (.inl rfl) k
    | some B =>
      rw [q] at k
      obtain ⟨T', e, r⟩ := k
      obtain ⟨st', rs', dgs', txs', vl', hT, r2⟩ := r.up
      exact ⟨_, take_dig hg (.inl rfl) e hT, r2⟩
  | len ds =>
    obtain ⟨txs, vl, rfl⟩ := hR
    have k := td_len (p := p) (rs := rs) (txs := txs) (vl := vl) (c := c) hrs (show dsOk ds from hA.2)
    cases q : step (rs, .len ds) c with
    | none => rw [q] at k; exact take_digX hg (.inr rfl) k
    | some B =>
      rw [q] at k
      obtain ⟨T', e, r⟩ := k
      obtain ⟨st', rs', dgs', txs', vl', hT, r2⟩ := r.up
      exact ⟨_, take_dig hg (.inr rfl) e hT, r2⟩
  | txt ds acc =>
    obtain ⟨vl, rfl⟩ := hR
    obtain ⟨g1, g2, g3, g4, g5⟩ := (hA.2 : dsOk ds ∧ ds ≠ [] ∧ ds ≠ [48] ∧ acc.length < digitsVal ds ∧ ∀ c ∈ acc, sgB c = true)
    have ha : acc.length < 1000000 := by
      simp only [Md.pre, List.length_cons, List.length_append] at hp
      omega
    obtain ⟨T', e, r⟩ := take_txt (p := p) (rs := rs) (vl := vl) hg hrs g1 g2 ha
    simp only [step]
    by_cases z : acc.length + 1 = digitsVal ds
    · rw [if_pos z] at r ⊢
      exact ⟨T', e, r⟩
    · rw [if_neg z] at r ⊢
      exact ⟨T', e, r⟩
  | over v =>
    obtain ⟨dgs, txs, rfl⟩ := hR
    exact take_over hg
end Lw

namespace Lw
open PySem L2 Vs VsEv
open PySem.NumText
def sgI (i : Int) : Bool := decide (i = 9 ∨ i = 10 ∨ (32 ≤ i ∧ i ≤ 126 ∧ i ≠ 37))
def runI (A : Rs) : List Int → Rs ⊕ Nat
  | [] => .inl A
  | i :: is => if sgI i = true then (match step A i.toNat with
      | some B => (match runI B is with
        | .inl C => .inl C
        | .inr k => .inr (k + 1))
      | none => .inr 0) else .inr 0
abbrev rdB : SM := zDrop (mMeth "WordReader" "take" F_WordReader_take (.plc 2) [.val true (mVar 1)])
theorem sgI_nat {i : Int} (h : sgI i = true) : sgB i.toNat = true ∧ i = (i.toNat : Int) := by
  unfold sgI at h
  simp only [decide_eq_true_eq] at h
  unfold sgB
  simp only [Bool.or_eq_true, Bool.and_eq_true, decide_eq_true_eq]
  omega
theorem sgI_no {i : Int} (h : ¬ sgI i = true) : sgD i = .non := by
  unfold sgI at h
  simp only [decide_eq_true_eq] at h
  unfold sgD
  rw [if_neg h]
theorem Rp.ins {p : Nat} {A : Rs} {T : OD} (h : Rp p A T) : ∃ xs, T = .o "WordReader" wrF xs := by
  obtain ⟨st, rs, dgs, txs, vl, rfl, _⟩ := h.up
  exact ⟨_, rfl⟩
theorem rd_loop : ∀ (is : List Int) (p : Nat) (A : Rs) (T : OD) (x o : Option OD), gd A → (pre A).length + is.length < 1000000 → Rp p A T →
    match runI A is with
    | .inl B => ∃ T' o', zFor (.name 1) rdB (is.map D.int) [x, o, some T] = .ok .nx [x, o', some T'] ∧ Rp (p + is.length) B T' ∧ gd B
    | .inr k => ∃ a b c, zFor (.name 1) rdB (is.map D.int) [x, o, some T] = .exc (bb (p + k)) [a, b, c]
  | [], p, A, T, x, o, hA, hl, hR => ⟨T, o, rfl, hR, hA⟩
  | i :: is, p, A, T, x, o, hA, hl, hR => by
    simp only [List.length_cons] at hl
    obtain ⟨xs, hx⟩ := hR.ins
    have nw : wrF.contains "take" = false := no_wr' (by simp)
    by_cases hi : sgI i = true
    · obtain ⟨hg, ei⟩ := sgI_nat hi
      have k := take_e (c := i.toNat) hA (by omega) hR hg
      rw [← ei] at k
      cases q : step A i.toNat with
      | none =>
        rw [q] at k
        have e : runI A (i :: is) = .inr 0 := by simp only [runI, if_pos hi, q]
        rw [e]
        subst hx
        have m := mMeth1_exc (i := 2) (c := "WordReader") (m := "take") (p := true) (fv := mVar 1) (ρ := [x, some (.v (.int i)), some (.o "WordReader" wrF xs)]) (a := .v (.int i)) rfl nw (by simp! only []) k
        refine ⟨x, some (.v (.int i)), some (.o "WordReader" wrF xs), ?_⟩
        rw [Nat.add_zero]
        rw [List.map_cons, zFor_cons, tgt_name]
        simp! only [forS_some, rdB, m]
      | some B =>
        rw [q] at k
        obtain ⟨T', e1, r⟩ := k
        obtain ⟨g1, g2⟩ := step_gd hA hg q
        have ih := rd_loop is (p + 1) B T' x (some (.v (.int i))) g1 (by rw [g2]; simp; omega) r
        subst hx
        have m := mMeth1_ok (i := 2) (c := "WordReader") (m := "take") (p := true) (fv := mVar 1) (ρ := [x, some (.v (.int i)), some (.o "WordReader" wrF xs)]) (a := .v (.int i)) rfl nw (by simp! only []) e1
        have st : zFor (.name 1) rdB ((i :: is).map D.int) [x, o, some (.o "WordReader" wrF xs)] = zFor (.name 1) rdB (is.map D.int) [x, some (.v (.int i)), some T'] := by
          rw [List.map_cons, zFor_cons, tgt_name]
          simp! only [forS_some, rdB, m]
        rw [st]
        cases e2 : runI B is with
        | inl C =>
          have e : runI A (i :: is) = .inl C := by simp only [runI, if_pos hi, q, e2]
          rw [e2] at ih
          rw [e]
          obtain ⟨T2, o2, e3, r3, g3⟩ := ih
          exact ⟨T2, o2, e3, by rw [List.length_cons, show p + (is.length + 1) = p + 1 + is.length by omega]; exact r3, g3⟩
        | inr n =>
          have e : runI A (i :: is) = .inr (n + 1) := by simp only [runI, if_pos hi, q, e2]
          rw [e2] at ih
          rw [e]
          obtain ⟨a, b, c, e3⟩ := ih
          exact ⟨a, b, c, by rw [show p + (n + 1) = p + 1 + n by omega]; exact e3⟩
    · have e : runI A (i :: is) = .inr 0 := by simp only [runI, if_neg hi]
      rw [e]
      obtain ⟨st, rs, dgs, txs, vl, hT, _⟩ := hR.up
      have k : F_WordReader_take [T, .v (.int i)] = .exc (bb p) [some T, none] := by rw [hT]; exact take_bad (sgI_no hi)
      subst hx
      have m := mMeth1_exc (i := 2) (c := "WordReader") (m := "take") (p := true) (fv := mVar 1) (ρ := [x, some (.v (.int i)), some (.o "WordReader" wrF xs)]) (a := .v (.int i)) rfl nw (by simp! only []) k
      refine ⟨x, some (.v (.int i)), some (.o "WordReader" wrF xs), ?_⟩
      rw [Nat.add_zero]
      rw [List.map_cons, zFor_cons, tgt_name]
      simp! only [forS_some, rdB, m]
/-- what the text tells: the value, or the place of its fault -/
def ans (is : List Int) : Wv ⊕ Nat := match runI ([], .val) is with
  | .inl (_, .over v) => .inl v
  | .inl _ => .inr is.length
  | .inr k => .inr k
theorem int_ok {x : Int} : F_is_integer [.v (.int x)] = .ok (.v (.bl true)) [none] := by
  unfold F_is_integer m_is_integer
  simp! only []
theorem rp0 : Rp 0 ([], .val) (wrT 0 "value" [] "" "" .non) := ⟨"", "", .non, rfl⟩
theorem read_e (is : List Int) (hl : is.length < 900000) : match ans is with
    | .inl v => F_read_word [.v (.lst (is.map .int))] = .ok (.v v.d) [none]
    | .inr k => F_read_word [.v (.lst (is.map .int))] = .exc (bb k) [none] := by
  have lp := rd_loop is 0 ([], .val) _ (some (.v (.lst (is.map .int)))) none ⟨fun r hr => by simp at hr, True.intro⟩ (by show 0 + is.length < _; omega) rp0
  have ec := mComp_map (it := zIt (mVar 0)) (tg := .name 1) (vs := [1]) (e := mCall F_is_integer [.val true (mVar 1)]) (ρ := [some (.v (.lst (is.map .int))), none, none]) (ρ1 := [some (.v (.lst (is.map .int))), none, none]) is (fun c => .int c) (fun c => .bl true) (by simp! only []) (by simp! only []) (small_line (by omega)) (fun x hx => ⟨[some (.v (.lst (is.map .int))), some (.v (.int x)), none], .v (.bl true), [some (.v (.lst (is.map .int))), some (.v (.int x)), none], by simp! only [], by simp! only [int_ok], by simp! only [], by simp! only []⟩)
  have hall : (is.all fun x => true) = true := by simp
  have e0 : doMake "WordReader" F_WordReader___init__ [] [some (.v (.lst (is.map .int))), none, none] = .ok (wrT 0 "value" [] "" "" .non) [some (.v (.lst (is.map .int))), none, none] := doMake_nil wr_init
  have nw : wrF.contains "fail" = false := no_wr' (by simp)
  unfold F_read_word m_read_word
  unfold ans
  cases q : runI ([], .val) is with
  | inr k =>
    rw [q] at lp
    obtain ⟨a, b, c, e⟩ := lp
    rw [Nat.zero_add] at e
    unfold rdB at e
    simp! only [ec, opAll_map, hall, e0, e]
  | inl B =>
    rw [q] at lp
    obtain ⟨T', o', e, r, g⟩ := lp
    rw [Nat.zero_add] at r
    unfold rdB at e
    have ex : ∀ {st : Str} {rs : List (List Wv)} {dgs txs : Str} {vl : D}, T' = wrT is.length st rs dgs txs vl → (st = ("over" : Str)) = False → F_read_word [.v (.lst (is.map .int))] = .exc (bb is.length) [none] := fun {st rs dgs txs vl} hT hs => by
      subst hT
      have m := mMeth0_exc (i := 2) (c := "WordReader") (m := "fail") (ρ := [some (.v (.lst (is.map .int))), o', some (wrT is.length st rs dgs txs vl)]) rfl nw fail_e
      unfold F_read_word m_read_word
      simp! only [ec, opAll_map, hall, e0, e, t_state, hs, m]
    obtain ⟨rs, md⟩ := B
    unfold F_read_word m_read_word at ex
    cases md with
    | val => obtain ⟨a, b, c, rfl⟩ := r; exact ex rfl ne_value_over
    | num ds => obtain ⟨a, b, rfl⟩ := r; exact ex rfl ne_n_over
    | len ds => obtain ⟨a, b, rfl⟩ := r; exact ex rfl ne_t_over
    | txt ds acc => obtain ⟨a, rfl⟩ := r; exact ex rfl ne_text_over
    | over v =>
      obtain ⟨a, b, rfl⟩ := r
      simp! only [ec, opAll_map, hall, e0, e, t_state, t_value]
end Lw

namespace Lw
open PySem L2 Vs VsEv
open PySem.NumText
/-! one turn of the loop of _law_fault (printed by mk11h.py) -/
def FB : SM := (zSeq (zSet 6 (mApp opIx [.val true (mVar 0), .val true (mVar 5)])) (zSeq (zIf (bOr (bAnd (asB (mApp (opIn true) [.val true (mVar 6), .val true (mTup [.val true (mC (.int 9)), .val true (mC (.int 10))])])) (bOr (asB (mApp opLt [.val true (mVar 6), .val true (mC (.int 32))])) (bOr (asB (mApp opGt [.val true (mVar 6), .val true (mC (.int 126))])) (asB (mApp opEq [.val true (mVar 6), .val true (mC (.int 37))]))))) (asB (mApp opEq [.val true (mVar 2), .val true (mC (.str "over"))]))) (zRet (mVar 5)) zNext) (zIf (asB (mApp opEq [.val true (mVar 2), .val true (mC (.str "text"))])) (zSeq (zSet 4 (mApp opSub [.val true (mVar 4), .val true (mC (.int 1))])) (zIf (asB (mApp opEq [.val true (mVar 4), .val true (mC (.int 0))])) (zSet 2 (mApp opIx [.val true (mLst [.val true (mC (.str "value")), .val true (mC (.str "over"))]), .val true (mApp opInt [.val true (mApp opEq [.val true (mVar 1), .val true (mC (.int 0))])])])) zNext)) (zIf (asB (mApp opEq [.val true (mVar 2), .val true (mC (.str "value"))])) (zIf (asB (mApp opEq [.val true (mVar 6), .val true (mC (.int 40))])) (zSet 1 (mFz (mApp opAdd [.val true (mVar 1), .val true (mC (.int 1))]))) (zIf (bAnd (asB (mApp opEq [.val true (mVar 6), .val true (mC (.int 41))])) (asB (mApp opGt [.val true (mVar 1), .val true (mC (.int 0))]))) (zSeq (zSet 1 (mApp opSub [.val true (mVar 1), .val true (mC (.int 1))])) (zSet 2 (mApp opIx [.val true (mLst [.val true (mC (.str "value")), .val true (mC (.str "over"))]), .val true (mApp opInt [.val true (mApp opEq [.val true (mVar 1), .val true (mC (.int 0))])])]))) (zIf (asB (mApp opEq [.val true (mVar 6), .val true (mC (.int 111))])) (zSet 2 (mApp opIx [.val true (mLst [.val true (mC (.str "value")), .val true (mC (.str "over"))]), .val true (mApp opInt [.val true (mApp opEq [.val true (mVar 1), .val true (mC (.int 0))])])])) (zIf (asB (mApp (opIn false) [.val true (mVar 6), .val true (mTup [.val true (mC (.int 110)), .val true (mC (.int 116))])])) (zSeq (zSet 2 (mApp opIx [.val true (mLst [.val true (mC (.str "n")), .val true (mC (.str "t"))]), .val true (mApp opInt [.val true (mApp opEq [.val true (mVar 6), .val true (mC (.int 116))])])])) (zSet 3 (mC (.str "")))) (zRet (mVar 5)))))) (zIf (bAnd (asB (mApp opEq [.val true (mVar 6), .val true (mApp opIx [.val true (mLst [.val true (mC (.int 59)), .val true (mC (.int 58))]), .val true (mApp opInt [.val true (mApp opEq [.val true (mVar 2), .val true (mC (.str "t"))])])])])) (asB (mApp opNe [.val true (mVar 3), .val true (mC (.str ""))]))) (zSeq (zSet 4 (mC (.int 0))) (zSeq (zIf (asB (mApp opEq [.val true (mVar 2), .val true (mC (.str "t"))])) (zSet 4 (mApp opInt [.val true (mVar 3)])) zNext) (zSeq (zSet 2 (mApp opIx [.val true (mLst [.val true (mC (.str "value")), .val true (mC (.str "over"))]), .val true (mApp opInt [.val true (mApp opEq [.val true (mVar 1), .val true (mC (.int 0))])])])) (zIf (asB (mApp opGt [.val true (mVar 4), .val true (mC (.int 0))])) (zSet 2 (mC (.str "text"))) zNext)))) (zIf (bAnd (mChain gLe gLe (mC (.int 48)) (mVar 6) (mC (.int 57))) (bAnd (asB (mApp opNe [.val true (mVar 3), .val true (mC (.str "0"))])) (asB (mApp opLt [.val true (mApp opLen [.val true (mVar 3)]), .val true (mC (.int 9))])))) (zSet 3 (mFz (mApp opAdd [.val true (mVar 3), .val true (mApp opIx [.val true (mC (.str "0123456789")), .val true (mApp opSub [.val true (mVar 6), .val true (mC (.int 48))])])]))) (zRet (mVar 5))))))))
def FB2 : SM := (zIf (asB (mApp opEq [.val true (mVar 2), .val true (mC (.str "text"))])) (zSeq (zSet 4 (mApp opSub [.val true (mVar 4), .val true (mC (.int 1))])) (zIf (asB (mApp opEq [.val true (mVar 4), .val true (mC (.int 0))])) (zSet 2 (mApp opIx [.val true (mLst [.val true (mC (.str "value")), .val true (mC (.str "over"))]), .val true (mApp opInt [.val true (mApp opEq [.val true (mVar 1), .val true (mC (.int 0))])])])) zNext)) (zIf (asB (mApp opEq [.val true (mVar 2), .val true (mC (.str "value"))])) (zIf (asB (mApp opEq [.val true (mVar 6), .val true (mC (.int 40))])) (zSet 1 (mFz (mApp opAdd [.val true (mVar 1), .val true (mC (.int 1))]))) (zIf (bAnd (asB (mApp opEq [.val true (mVar 6), .val true (mC (.int 41))])) (asB (mApp opGt [.val true (mVar 1), .val true (mC (.int 0))]))) (zSeq (zSet 1 (mApp opSub [.val true (mVar 1), .val true (mC (.int 1))])) (zSet 2 (mApp opIx [.val true (mLst [.val true (mC (.str "value")), .val true (mC (.str "over"))]), .val true (mApp opInt [.val true (mApp opEq [.val true (mVar 1), .val true (mC (.int 0))])])]))) (zIf (asB (mApp opEq [.val true (mVar 6), .val true (mC (.int 111))])) (zSet 2 (mApp opIx [.val true (mLst [.val true (mC (.str "value")), .val true (mC (.str "over"))]), .val true (mApp opInt [.val true (mApp opEq [.val true (mVar 1), .val true (mC (.int 0))])])])) (zIf (asB (mApp (opIn false) [.val true (mVar 6), .val true (mTup [.val true (mC (.int 110)), .val true (mC (.int 116))])])) (zSeq (zSet 2 (mApp opIx [.val true (mLst [.val true (mC (.str "n")), .val true (mC (.str "t"))]), .val true (mApp opInt [.val true (mApp opEq [.val true (mVar 6), .val true (mC (.int 116))])])])) (zSet 3 (mC (.str "")))) (zRet (mVar 5)))))) (zIf (bAnd (asB (mApp opEq [.val true (mVar 6), .val true (mApp opIx [.val true (mLst [.val true (mC (.int 59)), .val true (mC (.int 58))]), .val true (mApp opInt [.val true (mApp opEq [.val true (mVar 2), .val true (mC (.str "t"))])])])])) (asB (mApp opNe [.val true (mVar 3), .val true (mC (.str ""))]))) (zSeq (zSet 4 (mC (.int 0))) (zSeq (zIf (asB (mApp opEq [.val true (mVar 2), .val true (mC (.str "t"))])) (zSet 4 (mApp opInt [.val true (mVar 3)])) zNext) (zSeq (zSet 2 (mApp opIx [.val true (mLst [.val true (mC (.str "value")), .val true (mC (.str "over"))]), .val true (mApp opInt [.val true (mApp opEq [.val true (mVar 1), .val true (mC (.int 0))])])])) (zIf (asB (mApp opGt [.val true (mVar 4), .val true (mC (.int 0))])) (zSet 2 (mC (.str "text"))) zNext)))) (zIf (bAnd (mChain gLe gLe (mC (.int 48)) (mVar 6) (mC (.int 57))) (bAnd (asB (mApp opNe [.val true (mVar 3), .val true (mC (.str "0"))])) (asB (mApp opLt [.val true (mApp opLen [.val true (mVar 3)]), .val true (mC (.int 9))])))) (zSet 3 (mFz (mApp opAdd [.val true (mVar 3), .val true (mApp opIx [.val true (mC (.str "0123456789")), .val true (mApp opSub [.val true (mVar 6), .val true (mC (.int 48))])])]))) (zRet (mVar 5))))))
section
variable {ds' : D} {dp : Nat} {st dgs : Str} {lv : Int} {p : Nat} {i : Int} {by0 : Option OD} {all : List Int}
theorem in_2 {b : Bool} {a c : Int} : opIn b [.int i, .tup [.int a, .int c]] = some (.v (.bl (b ^^ decide (i = a ∨ i = c)))) := by
  have h : opIn b [.int i, .tup [.int a, .int c]] = some (.v (.bl (b ^^ (PyData.eqv (.int a) (.int i) || (PyData.eqv (.int c) (.int i) || false))))) := by rfl
  rw [h]
  have e : ∀ x y : Int, PyData.eqv (.int x) (.int y) = decide (y = x) := fun x y => by
    unfold PyData.eqv
    by_cases z : y = x
    · simp [z]
    · have : x ≠ y := fun w => z w.symm
      simp [z, this]
  rw [e, e]
  by_cases h1 : i = a <;> by_cases h2 : i = c <;> simp [h1, h2]
theorem in_9 : opIn true [.int i, .tup [.int 9, .int 10]] = some (.v (.bl (!decide (i = 9 ∨ i = 10)))) := by
  rw [in_2, Bool.true_xor]
theorem fb_first (hi : all[p]? = some i) : FB [some (.v (.lst (all.map .int))), some (.v (.int dp)), some (.v (.str st)), some (.v (.str dgs)), some (.v (.int lv)), some (.v (.int p)), by0] =
    if sgI i = true ∧ st ≠ ("over" : Str) then FB2 [some (.v (.lst (all.map .int))), some (.v (.int dp)), some (.v (.str st)), some (.v (.str dgs)), some (.v (.int lv)), some (.v (.int p)), some (.v (.int i))] else .ok (.rt (.v (.int p))) [some (.v (.lst (all.map .int))), some (.v (.int dp)), some (.v (.str st)), some (.v (.str dgs)), some (.v (.int lv)), some (.v (.int p)), some (.v (.int i))] := by
  have e1 : opIx [.lst (all.map .int), .int p] = some (.v (.int i)) := by
    rw [opIx_lst, atI_nat (Int.natCast_nonneg p)]
    simp [hi]
  show zSeq _ (zSeq _ FB2) _ = _
  by_cases ho : st = ("over" : Str)
  · rw [if_neg (fun z => z.2 ho)]
    subst ho
    by_cases h1 : i = 9 ∨ i = 10
    · simp! only [e1, in_9, h1]
    · by_cases h2 : i < 32
      · simp! only [e1, in_9, h1, h2]
      · by_cases h3 : 126 < i
        · simp! only [e1, in_9, h1, h2, h3]
        · by_cases h4 : i = 37
          · simp! only [e1, in_9, h1, h2, h3, h4]
          · simp! only [e1, in_9, h1, h2, h3, h4]
  · by_cases hg : sgI i = true
    · rw [if_pos ⟨hg, ho⟩]
      have hg := of_decide_eq_true hg
      by_cases h1 : i = 9 ∨ i = 10
      · simp! only [e1, in_9, h1, ho]
      · simp! only [e1, in_9, h1, ho, show ¬ i < 32 by omega, show ¬ 126 < i by omega, show ¬ i = 37 by omega]
    · rw [if_neg (fun z => hg z.1)]
      have hg : ¬ (i = 9 ∨ i = 10 ∨ (32 ≤ i ∧ i ≤ 126 ∧ i ≠ 37)) := fun z => hg (decide_eq_true z)
      have h1 : ¬ (i = 9 ∨ i = 10) := by omega
      by_cases h2 : i < 32
      · simp! only [e1, in_9, h1, h2, ho]
      · by_cases h3 : 126 < i
        · simp! only [e1, in_9, h1, h2, h3, ho]
        · have h4 : i = 37 := by omega
          simp! only [e1, in_9, h1, h2, h3, h4, ho]
theorem ci_40 {c : Nat} : ((c : Int) = 40) = (c = 40) := propext (by omega)
theorem ci_41 {c : Nat} : ((c : Int) = 41) = (c = 41) := propext (by omega)
theorem ci_58 {c : Nat} : ((c : Int) = 58) = (c = 58) := propext (by omega)
theorem ci_59 {c : Nat} : ((c : Int) = 59) = (c = 59) := propext (by omega)
theorem ci_110 {c : Nat} : ((c : Int) = 110) = (c = 110) := propext (by omega)
theorem ci_111 {c : Nat} : ((c : Int) = 111) = (c = 111) := propext (by omega)
theorem ci_116 {c : Nat} : ((c : Int) = 116) = (c = 116) := propext (by omega)
/-- the state's word -/
def stn : Md → Str
  | .val => "value"
  | .num _ => "n"
  | .len _ => "t"
  | .txt _ _ => "text"
  | .over _ => "over"
def lf : Md → Int
  | .txt ds acc => (digitsVal ds : Int) - acc.length
  | _ => 0
def dgo : Md → Str → Prop
  | .num ds, d => d = mk ds
  | .len ds, d => d = mk ds
  | _, _ => True
abbrev FE (all : List Int) (A : Rs) (d : Str) (x y : Option OD) : Vs.Env := [some (.v (.lst (all.map .int))), some (.v (.int A.1.length)), some (.v (.str (stn A.2))), some (.v (.str d)), some (.v (.int (lf A.2))), x, y]
variable {rs : List (List Wv)} {c : Nat} {d : Str} {ds acc : List Nat}
theorem put_st (rs : List (List Wv)) (v : Wv) : (put rs v).1.length = rs.length ∧ stn (put rs v).2 = (if rs.length = 0 then "over" else "value") ∧ lf (put rs v).2 = 0 ∧ ∀ d, dgo (put rs v).2 d := by
  cases rs with
  | nil => exact ⟨rfl, rfl, rfl, fun _ => True.intro⟩
  | cons r rs => exact ⟨rfl, by simp [put, stn], rfl, fun _ => True.intro⟩
theorem f_val : match step (rs, .val) c with
    | some B => ∃ d', FB2 (FE all (rs, .val) d (some (.v (.int p))) (some (.v (.int c)))) = .ok .nx (FE all B d' (some (.v (.int p))) (some (.v (.int c)))) ∧ dgo B.2 d'
    | none => FB2 (FE all (rs, .val) d (some (.v (.int p))) (some (.v (.int c)))) = .ok (.rt (.v (.int p))) (FE all (rs, .val) d (some (.v (.int p))) (some (.v (.int c)))) := by
  simp only [step]
  by_cases h1 : c = 111
  · rw [if_pos h1]
    obtain ⟨q1, q2, q3, q4⟩ := put_st rs .non
    refine ⟨d, ?_, q4 d⟩
    unfold FE
    rw [q1, q2, q3]
    unfold FB2
    cases rs with
    | nil => simp! only [ci_40, ci_41, ci_58, ci_59, ci_110, ci_111, ci_116, h1, stn, lf]
    | cons r rs => simp! only [ci_40, ci_41, ci_58, ci_59, ci_110, ci_111, ci_116, h1, stn, lf, show ¬ (((rs.length + 1 : Nat) : Int) = 0) by omega]
  rw [if_neg h1]
  by_cases h2 : c = 40
  · rw [if_pos h2]
    refine ⟨d, ?_, True.intro⟩
    unfold FE FB2
    simp! only [ci_40, ci_41, ci_58, ci_59, ci_110, ci_111, ci_116, h1, h2, stn, lf]
    rfl
  rw [if_neg h2]
  by_cases h3 : c = 41
  · rw [if_pos h3]
    cases rs with
    | nil =>
      unfold FE FB2
      simp! only [ci_40, ci_41, ci_58, ci_59, ci_110, ci_111, ci_116, h1, h2, h3, stn, lf, in_2]
    | cons r rs =>
      obtain ⟨q1, q2, q3, q4⟩ := put_st rs (.tup r)
      refine ⟨d, ?_, q4 d⟩
      unfold FE
      rw [q1, q2, q3]
      unfold FB2
      cases rs with
      | nil => simp! only [ci_40, ci_41, ci_58, ci_59, ci_110, ci_111, ci_116, h1, h2, h3, stn, lf, Int.sub_self]
      | cons r2 rs =>
        simp! only [ci_40, ci_41, ci_58, ci_59, ci_110, ci_111, ci_116, h1, h2, h3, stn, lf, show (((rs.length + 1 + 1 : Nat) : Int) > 0) by omega, show ((rs.length + 1 + 1 : Nat) : Int) - 1 = ((rs.length + 1 : Nat) : Int) by omega, show ¬ (((rs.length + 1 : Nat) : Int) = 0) by omega, show ¬ (rs.length + 1 = 0) by omega]
        done
  rw [if_neg h3]
  by_cases h4 : c = 110
  · rw [if_pos h4]
    refine ⟨mk [], ?_, rfl⟩
    unfold FE FB2
    simp! only [ci_40, ci_41, ci_58, ci_59, ci_110, ci_111, ci_116, h1, h2, h3, h4, stn, lf, in_2]
    rfl
  rw [if_neg h4]
  by_cases h5 : c = 116
  · rw [if_pos h5]
    refine ⟨mk [], ?_, rfl⟩
    unfold FE FB2
    simp! only [ci_40, ci_41, ci_58, ci_59, ci_110, ci_111, ci_116, h1, h2, h3, h4, h5, stn, lf, in_2]
    rfl
  rw [if_neg h5]
  unfold FE FB2
  simp! only [ci_40, ci_41, ci_58, ci_59, ci_110, ci_111, ci_116, h1, h2, h3, h4, h5, stn, lf, in_2]
theorem dgT_at : ((List.range 10).all fun k => decide (("0123456789" : Str).cps.toList[k]? = some (48 + k))) = true := by decide +kernel
theorem dg_ix (h : 48 ≤ c ∧ c ≤ 57) : opIx [.str "0123456789", .int ((c : Int) - 48)] = some (.v (.str (ch1 c))) := by
  have e := of_decide_eq_true (List.all_eq_true.mp dgT_at (c - 48) (by simp; omega))
  rw [opIx_str (by decide), Vs.atI_nat (by omega), show ((c : Int) - 48).toNat = c - 48 by omega, e, show 48 + (c - 48) = c by omega]
  rfl
theorem f_txt (h : acc.length < digitsVal ds) : match step (rs, .txt ds acc) c with
    | some B => ∃ d', FB2 (FE all (rs, .txt ds acc) d (some (.v (.int p))) (some (.v (.int c)))) = .ok .nx (FE all B d' (some (.v (.int p))) (some (.v (.int c)))) ∧ dgo B.2 d'
    | none => FB2 (FE all (rs, .txt ds acc) d (some (.v (.int p))) (some (.v (.int c)))) = .ok (.rt (.v (.int p))) (FE all (rs, .txt ds acc) d (some (.v (.int p))) (some (.v (.int c)))) := by
  simp only [step]
  by_cases h1 : acc.length + 1 = digitsVal ds
  · rw [if_pos h1]
    obtain ⟨q1, q2, q3, q4⟩ := put_st rs (.txt ⟨(acc ++ [c]).toArray⟩)
    refine ⟨d, ?_, q4 d⟩
    unfold FE
    rw [q1, q2, q3]
    unfold FB2
    have e1 : (digitsVal ds : Int) - acc.length - 1 = 0 := by omega
    cases rs with
    | nil => simp! only [stn, lf, e1]
    | cons r rs => simp! only [stn, lf, e1, show ¬ (((rs.length + 1 : Nat) : Int) = 0) by omega, show ¬ (rs.length + 1 = 0) by omega]
  · rw [if_neg h1]
    refine ⟨d, ?_, True.intro⟩
    have e1 : ¬ ((digitsVal ds : Int) - acc.length - 1 = 0) := by omega
    have e2 : (digitsVal ds : Int) - acc.length - 1 = (digitsVal ds : Int) - ((acc ++ [c]).length : Nat) := by simp; omega
    unfold FE FB2
    simp! only [stn, lf, e1]
    rw [e2]
theorem f_num (hd : dsOk ds) : match step (rs, .num ds) c with
    | some B => ∃ d', FB2 (FE all (rs, .num ds) (mk ds) (some (.v (.int p))) (some (.v (.int c)))) = .ok .nx (FE all B d' (some (.v (.int p))) (some (.v (.int c)))) ∧ dgo B.2 d'
    | none => FB2 (FE all (rs, .num ds) (mk ds) (some (.v (.int p))) (some (.v (.int c)))) = .ok (.rt (.v (.int p))) (FE all (rs, .num ds) (mk ds) (some (.v (.int p))) (some (.v (.int c)))) := by
  have hl : (mk ds).length = ds.length := mk_len ds
  have ol := opLen_str (s := mk ds) (small_line (by have := hd.2.1; omega))
  have ap := opAdd_str (x := mk ds) (y := ch1 c) (by have : sizeLine = 16777216 := rfl; have : (ch1 c).length = 1 := rfl; have := hd.2.1; omega)
  rw [mk_app] at ap
  simp only [step]
  by_cases h1 : c = 59 ∧ ds ≠ []
  · rw [if_pos h1]
    obtain ⟨h1, h2⟩ := h1
    obtain ⟨q1, q2, q3, q4⟩ := put_st rs (.num (digitsVal ds))
    refine ⟨mk ds, ?_, q4 _⟩
    unfold FE
    rw [q1, q2, q3]
    unfold FB2
    cases rs with
    | nil => simp! only [ci_40, ci_41, ci_58, ci_59, ci_110, ci_111, ci_116, h1, h2, stn, lf, mk_e', Int.lt_irrefl]
    | cons r rs => simp! only [ci_40, ci_41, ci_58, ci_59, ci_110, ci_111, ci_116, h1, h2, stn, lf, mk_e', Int.lt_irrefl, show ¬ (((rs.length + 1 : Nat) : Int) = 0) by omega, show ¬ (rs.length + 1 = 0) by omega]
  rw [if_neg h1]
  by_cases h2 : c = 59
  · have h3 : ds = [] := Decidable.byContradiction fun z => h1 ⟨h2, z⟩
    rw [if_neg (by omega)]
    have k1 : (48 : Int) ≤ c := by omega
    have k2 : ¬ ((c : Int) ≤ 57) := by omega
    unfold FE FB2
    simp! only [ci_40, ci_41, ci_58, ci_59, ci_110, ci_111, ci_116, eq_true h2, stn, lf, mk_e', h3, k1, k2]
  · by_cases h3 : 48 ≤ c ∧ c ≤ 57
    · have k1 : (48 : Int) ≤ c := by omega
      have k2 : (c : Int) ≤ 57 := by omega
      have ix := dg_ix h3
      by_cases h4 : ds = [48]
      · rw [if_neg (fun z => z.2.1 h4)]
        unfold FE FB2
        simp! only [ci_40, ci_41, ci_58, ci_59, ci_110, ci_111, ci_116, h2, stn, lf, k1, k2, mk_z, h4]
      · by_cases h5 : ds.length < 9
        · rw [if_pos ⟨h3, h4, h5⟩]
          refine ⟨mk (ds ++ [c]), ?_, rfl⟩
          unfold FE FB2
          simp! only [ci_40, ci_41, ci_58, ci_59, ci_110, ci_111, ci_116, h2, stn, lf, k1, k2, mk_z, h4, ol, hl, show ((ds.length : Int) < 9) by omega, ix, ap]
        · rw [if_neg (fun z => h5 z.2.2)]
          unfold FE FB2
          simp! only [ci_40, ci_41, ci_58, ci_59, ci_110, ci_111, ci_116, h2, stn, lf, k1, k2, mk_z, h4, ol, hl, show ¬ ((ds.length : Int) < 9) by omega]
    · rw [if_neg (fun z => h3 z.1)]
      unfold FE FB2
      by_cases k1 : (48 : Int) ≤ c
      · have k2 : ¬ ((c : Int) ≤ 57) := by omega
        simp! only [ci_40, ci_41, ci_58, ci_59, ci_110, ci_111, ci_116, h2, stn, lf, k1, k2]
      · simp! only [ci_40, ci_41, ci_58, ci_59, ci_110, ci_111, ci_116, h2, stn, lf, k1]
theorem f_len (hd : dsOk ds) : match step (rs, .len ds) c with
    | some B => ∃ d', FB2 (FE all (rs, .len ds) (mk ds) (some (.v (.int p))) (some (.v (.int c)))) = .ok .nx (FE all B d' (some (.v (.int p))) (some (.v (.int c)))) ∧ dgo B.2 d'
    | none => FB2 (FE all (rs, .len ds) (mk ds) (some (.v (.int p))) (some (.v (.int c)))) = .ok (.rt (.v (.int p))) (FE all (rs, .len ds) (mk ds) (some (.v (.int p))) (some (.v (.int c)))) := by
  have hl : (mk ds).length = ds.length := mk_len ds
  have ol := opLen_str (s := mk ds) (small_line (by have := hd.2.1; omega))
  have ap := opAdd_str (x := mk ds) (y := ch1 c) (by have : sizeLine = 16777216 := rfl; have : (ch1 c).length = 1 := rfl; have := hd.2.1; omega)
  rw [mk_app] at ap
  simp only [step]
  by_cases h1 : c = 58 ∧ ds ≠ []
  · rw [if_pos h1]
    obtain ⟨h1, h2⟩ := h1
    by_cases h4 : ds = [48]
    · rw [if_pos h4]
      obtain ⟨q1, q2, q3, q4⟩ := put_st rs (.txt ⟨#[]⟩)
      refine ⟨mk ds, ?_, q4 _⟩
      unfold FE
      rw [q1, q2, q3]
      have hi := int_mk hd h2
      have h0 : digitsVal ds = 0 := by rw [h4]; rfl
      rw [h0] at hi
      unfold FB2
      cases rs with
      | nil => simp! only [ci_40, ci_41, ci_58, ci_59, ci_110, ci_111, ci_116, h1, h2, stn, lf, mk_e', hi, Int.lt_irrefl]
      | cons r rs => simp! only [ci_40, ci_41, ci_58, ci_59, ci_110, ci_111, ci_116, h1, h2, stn, lf, mk_e', hi, Int.lt_irrefl, show ¬ (((rs.length + 1 : Nat) : Int) = 0) by omega, show ¬ (rs.length + 1 = 0) by omega]
    · rw [if_neg h4]
      refine ⟨mk ds, ?_, True.intro⟩
      have hi := int_mk hd h2
      have hp := hd.pos h2 h4
      unfold FE FB2
      cases rs with
      | nil => simp! only [ci_40, ci_41, ci_58, ci_59, ci_110, ci_111, ci_116, h1, h2, stn, lf, mk_e', hi, show ((digitsVal ds : Int) > 0) by omega, show ((0 : Int) < digitsVal ds) by omega, Int.sub_zero]
      | cons r rs => simp! only [ci_40, ci_41, ci_58, ci_59, ci_110, ci_111, ci_116, h1, h2, stn, lf, mk_e', hi, show ((digitsVal ds : Int) > 0) by omega, show ((0 : Int) < digitsVal ds) by omega, Int.sub_zero, show ¬ (((rs.length + 1 : Nat) : Int) = 0) by omega]
  rw [if_neg h1]
  by_cases h2 : c = 58
  · have h3 : ds = [] := Decidable.byContradiction fun z => h1 ⟨h2, z⟩
    rw [if_neg (by omega)]
    have k1 : (48 : Int) ≤ c := by omega
    have k2 : ¬ ((c : Int) ≤ 57) := by omega
    unfold FE FB2
    simp! only [ci_40, ci_41, ci_58, ci_59, ci_110, ci_111, ci_116, eq_true h2, stn, lf, mk_e', h3, k1, k2]
  · by_cases h3 : 48 ≤ c ∧ c ≤ 57
    · have k1 : (48 : Int) ≤ c := by omega
      have k2 : (c : Int) ≤ 57 := by omega
      have ix := dg_ix h3
      by_cases h4 : ds = [48]
      · rw [if_neg (fun z => z.2.1 h4)]
        unfold FE FB2
        simp! only [ci_40, ci_41, ci_58, ci_59, ci_110, ci_111, ci_116, h2, stn, lf, k1, k2, mk_z, h4]
      · by_cases h5 : ds.length < 9
        · rw [if_pos ⟨h3, h4, h5⟩]
          refine ⟨mk (ds ++ [c]), ?_, rfl⟩
          unfold FE FB2
          simp! only [ci_40, ci_41, ci_58, ci_59, ci_110, ci_111, ci_116, h2, stn, lf, k1, k2, mk_z, h4, ol, hl, show ((ds.length : Int) < 9) by omega, ix, ap]
        · rw [if_neg (fun z => h5 z.2.2)]
          unfold FE FB2
          simp! only [ci_40, ci_41, ci_58, ci_59, ci_110, ci_111, ci_116, h2, stn, lf, k1, k2, mk_z, h4, ol, hl, show ¬ ((ds.length : Int) < 9) by omega]
    · rw [if_neg (fun z => h3 z.1)]
      unfold FE FB2
      by_cases k1 : (48 : Int) ≤ c
      · have k2 : ¬ ((c : Int) ≤ 57) := by omega
        simp! only [ci_40, ci_41, ci_58, ci_59, ci_110, ci_111, ci_116, h2, stn, lf, k1, k2]
      · simp! only [ci_40, ci_41, ci_58, ci_59, ci_110, ci_111, ci_116, h2, stn, lf, k1]
end
end Lw

namespace Lw
open PySem L2 Vs VsEv
open PySem.NumText
theorem fb_step {all : List Int} {A : Rs} {d : Str} {p : Nat} {i : Int} {x y : Option OD} (hA : gd A) (hd : dgo A.2 d) (hi : all[p]? = some i) :
    match (if sgI i = true then step A i.toNat else none) with
    | some B => ∃ d', FB (FE all A d (some (.v (.int p))) y) = .ok .nx (FE all B d' (some (.v (.int p))) (some (.v (.int i)))) ∧ dgo B.2 d'
    | none => FB (FE all A d (some (.v (.int p))) y) = .ok (.rt (.v (.int p))) (FE all A d (some (.v (.int p))) (some (.v (.int i)))) := by
  have f := fb_first (dp := A.1.length) (st := stn A.2) (dgs := d) (lv := lf A.2) (by0 := y) hi
  unfold FE
  by_cases hs : sgI i = true
  · rw [if_pos hs]
    obtain ⟨hg, ei⟩ := sgI_nat hs
    obtain ⟨rs, m⟩ := A
    cases m with
    | over v =>
      rw [if_neg (fun z => z.2 rfl)] at f
      exact f
    | val =>
      rw [if_pos ⟨hs, by show ¬ (("value" : Str) = "over"); decide +kernel⟩] at f
      rw [f]
      have k := f_val (p := p) (all := all) (rs := rs) (c := i.toNat) (d := d)
      rw [← ei] at k
      exact k
    | num ds =>
      rw [if_pos ⟨hs, by show ¬ (("n" : Str) = "over"); decide +kernel⟩] at f
      rw [f]
      have hd : d = mk ds := hd
      subst hd
      have k := f_num (p := p) (all := all) (rs := rs) (c := i.toNat) (show dsOk ds from hA.2)
      rw [← ei] at k
      exact k
    | len ds =>
      rw [if_pos ⟨hs, by show ¬ (("t" : Str) = "over"); decide +kernel⟩] at f
      rw [f]
      have hd : d = mk ds := hd
      subst hd
      have k := f_len (p := p) (all := all) (rs := rs) (c := i.toNat) (show dsOk ds from hA.2)
      rw [← ei] at k
      exact k
    | txt ds acc =>
      rw [if_pos ⟨hs, by show ¬ (("text" : Str) = "over"); decide +kernel⟩] at f
      rw [f]
      have k := f_txt (p := p) (all := all) (rs := rs) (c := i.toNat) (d := d) (ds := ds) (acc := acc) hA.2.2.2.2.1
      rw [← ei] at k
      exact k
  · rw [if_neg hs]
    rw [if_neg (fun z => hs z.1)] at f
    exact f
theorem ft_loop {all : List Int} : ∀ (is : List Int) (p : Nat) (A : Rs) (d : Str) (x y : Option OD), gd A → dgo A.2 d → (∀ k, all[p + k]? = is[k]?) →
    match runI A is with
    | .inl B => ∃ d' x' y', zFor (.name 5) FB ((List.range' p is.length).map fun k => D.int (k : Nat)) (FE all A d x y) = .ok .nx (FE all B d' x' y')
    | .inr k => ∃ B d' x' y', zFor (.name 5) FB ((List.range' p is.length).map fun k => D.int (k : Nat)) (FE all A d x y) = .ok (.rt (.v (.int (p + k : Nat)))) (FE all B d' x' y')
  | [], p, A, d, x, y, hA, hd, h => ⟨d, x, y, rfl⟩
  | i :: is, p, A, d, x, y, hA, hd, h => by
    have hi : all[p]? = some i := by have := h 0; simpa using this
    have hr : (List.range' p (i :: is).length).map (fun k => D.int (k : Nat)) = D.int p :: (List.range' (p + 1) is.length).map fun k => D.int (k : Nat) := rfl
    have k := fb_step (x := x) (y := y) hA hd hi
    rw [hr, zFor_cons]
    have ht : (Tgt.name 5).put (D.int p) (FE all A d x y) = some (FE all A d (some (.v (.int p))) y) := by rw [tgt_name]; rfl
    rw [ht, forS_some]
    by_cases hs : sgI i = true
    · rw [if_pos hs] at k
      cases q : step A i.toNat with
      | none =>
        rw [q] at k
        have e : runI A (i :: is) = .inr 0 := by simp only [runI, if_pos hs, q]
        rw [e]
        refine ⟨A, d, some (.v (.int p)), some (.v (.int i)), ?_⟩
        rw [k]
        rfl
      | some B =>
        rw [q] at k
        obtain ⟨d', e1, hd'⟩ := k
        obtain ⟨hg, ei⟩ := sgI_nat hs
        have ih := ft_loop is (p + 1) B d' (some (.v (.int p))) (some (.v (.int i))) (step_gd hA hg q).1 hd' (fun k => by
          have := h (k + 1)
          rw [show p + (k + 1) = p + 1 + k by omega] at this
          simpa using this)
        rw [e1, Out.bind_ok, zLoop_nx]
        cases e2 : runI B is with
        | inl C =>
          have e : runI A (i :: is) = .inl C := by simp only [runI, if_pos hs, q, e2]
          rw [e2] at ih
          rw [e]
          exact ih
        | inr n =>
          have e : runI A (i :: is) = .inr (n + 1) := by simp only [runI, if_pos hs, q, e2]
          rw [e2] at ih
          rw [e]
          obtain ⟨C, d2, x2, y2, e3⟩ := ih
          exact ⟨C, d2, x2, y2, by rw [show p + (n + 1) = p + 1 + n by omega]; exact e3⟩
    · rw [if_neg hs] at k
      have e : runI A (i :: is) = .inr 0 := by simp only [runI, if_neg hs]
      rw [e]
      refine ⟨A, d, some (.v (.int p)), some (.v (.int i)), ?_⟩
      rw [k]
      rfl
def flt (is : List Int) : Int := match ans is with
  | .inl _ => -1
  | .inr k => k
theorem fault_e (is : List Int) (hl : is.length < 900000) : F__law_fault [.v (.lst (is.map .int))] = .ok (.v (.int (flt is))) [none] := by
  have lp := ft_loop (all := is) is 0 ([], .val) "" none none ⟨fun r hr => by simp at hr, True.intro⟩ True.intro (fun k => by rw [Nat.zero_add])
  rw [← List.range_eq_range', ← rngD_map] at lp
  unfold FE at lp
  show defM 7 [false] (zSeq (zSet 1 (mC (.int 0))) (zSeq (zSet 2 (mC (.str "value"))) (zSeq (zSet 3 (mC (.str ""))) (zSeq (zSet 4 (mC (.int 0))) (zSeq (zForIn (zRng1 (mApp opLen [.val true (mVar 0)])) (.name 5) FB) (zSeq (zIf (asB (mApp opNe [.val true (mVar 2), .val true (mC (.str "over"))])) (zRet (mApp opLen [.val true (mVar 0)])) zNext) (zRet (mApp opNeg [.val true (mC (.int 1))])))))))) _ = _
  unfold flt ans
  have s0 : stn Md.val = "value" := rfl
  have l0 : lf Md.val = 0 := rfl
  have z0 : ((([] : List (List Wv)).length : Nat) : Int) = 0 := rfl
  have en : ∀ {d : D} (B : Rs) (d' : Str) (x y : Option OD), back [false] (FE is B d' x y) = [none] := fun B d' x y => rfl
  cases q : runI ([], .val) is with
  | inr k =>
    rw [q] at lp
    obtain ⟨B, d', x', y', e⟩ := lp
    rw [Nat.zero_add] at e
    dsimp only at e
    rw [s0, l0, z0] at e
    simp! only [List.length_map, rng1_int (n := (is.length : Int)) (by omega), Int.toNat_natCast, e]
  | inl B =>
    rw [q] at lp
    obtain ⟨d', x', y', e⟩ := lp
    dsimp only at e
    rw [s0, l0, z0] at e
    obtain ⟨rs, m⟩ := B
    cases m with
    | val =>
      dsimp only [stn, lf] at e
      simp! only [List.length_map, rng1_int (n := (is.length : Int)) (by omega), Int.toNat_natCast, e]
    | num ds =>
      dsimp only [stn, lf] at e
      simp! only [List.length_map, rng1_int (n := (is.length : Int)) (by omega), Int.toNat_natCast, e]
    | len ds =>
      dsimp only [stn, lf] at e
      simp! only [List.length_map, rng1_int (n := (is.length : Int)) (by omega), Int.toNat_natCast, e]
    | txt ds acc =>
      dsimp only [stn, lf] at e
      simp! only [List.length_map, rng1_int (n := (is.length : Int)) (by omega), Int.toNat_natCast, e]
    | over v =>
      dsimp only [stn, lf] at e
      simp! only [List.length_map, rng1_int (n := (is.length : Int)) (by omega), Int.toNat_natCast, e]
end Lw

namespace Lw
open PySem L2 Vs VsEv
open PySem.NumText
def tld (is : List Int) : D := match ans is with
  | .inl v => .tup [.str "value", v.d]
  | .inr k => .tup [.str "byte", .int k]
theorem told_e (is : List Int) (hl : is.length < 900000) : F__law_told [.v (.lst (is.map .int))] = .ok (.v (tld is)) [none] := by
  have r := read_e is hl
  unfold tld
  unfold F__law_told m__law_told
  cases q : ans is with
  | inl v =>
    rw [q] at r
    simp! only [r]
  | inr k =>
    rw [q] at r
    have hn : (D.lst (is.map D.int)).nx = true := nx_lst fun d hd => by obtain ⟨x, _, rfl⟩ := List.mem_map.mp hd; rfl
    simp! only [r]
    rw [tryA_exc (x := bb k) (fl := .rt (.v (.tup [.str "byte", .int k]))) (ρ2 := [some (.v (.lst (is.map .int))), some (.v (.exn ["place"] [.int k]))]) (by show sub_StreamError "BadByte" = some true; decide) (by simp [nxE, OD.nx, hn]) (by simp) (by rfl) (by
      have e1 : sub_BadByte (bb k).cls = some true := by show sub_BadByte "BadByte" = some true; decide
      have e2 : decide ((bb k).cls = ("BadByte" : Str)) = true := by show decide (("BadByte" : Str) = "BadByte") = true; decide
      rw [e1, e2]
      show zSeq _ _ [some (.v (.lst (is.map .int))), some (.v (.exn ["place"] [.int k]))] = _
      have e3 : zipF ["place"] [D.int k] "place" = some (.int k) := by rfl
      simp! only [mIsA_e, mXf_e, e3]) (by simp [nxE, OD.nx, hn]) (by rfl)]
    simp! only []
theorem told_1 : F__law_told [.v .non] = .ok (.v (.tup [.str "refused", .bl true])) [none] := by rfl
theorem told_2 : F__law_told [.v (.str "o")] = .ok (.v (.tup [.str "refused", .bl true])) [none] := by rfl
theorem told_3 : F__law_told [.v (.tup [.int 111])] = .ok (.v (.tup [.str "refused", .bl true])) [none] := by rfl
theorem told_4 : F__law_told [.v (.lst [.non])] = .ok (.v (.tup [.str "refused", .bl true])) [none] := by rfl
theorem told_5 : F__law_told [.v (.lst [.bl true])] = .ok (.v (.tup [.str "refused", .bl true])) [none] := by rfl
end Lw

namespace Lw
open PySem L2 Vs VsEv
open PySem.NumText
theorem mk_cat (a b : List Nat) : mk a ++ mk b = mk (a ++ b) := str_ext (by
  show ((mk a).cps ++ (mk b).cps).toList = _
  simp [mk])
theorem mk_of (s : Str) : mk s.cps.toList = s := str_ext (by rw [mk_cps])
theorem add_mk {a b : List Nat} (h : a.length + b.length ≤ 16000000) : opAdd [.str (mk a), .str (mk b)] = some (.v (.str (mk (a ++ b)))) := by
  rw [opAdd_str (by rw [mk_len, mk_len]; have : sizeLine = 16777216 := rfl; omega), mk_cat]
theorem str_nat {n : Nat} (h : n < 10 ^ 9) : opStr [.int (n : Nat)] = some (.v (.str (mk (dg n)))) := by
  have hlog : (n : Int).natAbs.log2 < 1920 := by
    show n.log2 < 1920
    by_cases h0 : n = 0
    · subst h0; decide
    · have h1 : n < 2 ^ 30 := by omega
      have := (Nat.log2_lt h0).mpr h1
      omega
  have e : (toString ((n : Nat) : Int) : Str) = mk (dg n) := str_ext (by
    rw [mk_cps]
    exact PySem.W.KIN.signs_num n)
  show (Option.map OD.v (if (n : Int).natAbs.log2 < 1920 then some (D.str (toString ((n : Nat) : Int))) else none)) = _
  rw [if_pos hlog, e]
  rfl
section
variable {n : Nat} {v : Wv} {R : FnM}
theorem w_num (h : n < 10 ^ 9) : opAdd [.str "n", .str (mk (dg n))] = some (.v (.str (mk (110 :: dg n)))) ∧ opAdd [.str (mk (110 :: dg n)), .str ";"] = some (.v (.str (mk (Wv.num n).w))) := by
  have hl := (dg_len h).2
  exact ⟨add_mk (a := [110]) (b := dg n) (by simp; omega), add_mk (a := 110 :: dg n) (b := [59]) (by simp; omega)⟩
theorem w_txt {s : Str} (h : s.length ≤ 1000000) : opAdd [.str "t", .str (mk (dg s.length))] = some (.v (.str (mk (116 :: dg s.length)))) ∧ opAdd [.str (mk (116 :: dg s.length)), .str ":"] = some (.v (.str (mk (116 :: (dg s.length ++ [58]))))) ∧ opAdd [.str (mk (116 :: (dg s.length ++ [58]))), .str s] = some (.v (.str (mk (Wv.txt s).w))) := by
  have hl := (dg_len (n := s.length) (by omega)).2
  refine ⟨add_mk (a := [116]) (b := dg s.length) (by simp; omega), ?_, ?_⟩
  · exact add_mk (a := 116 :: dg s.length) (b := [58]) (by simp; omega)
  · have := add_mk (a := 116 :: (dg s.length ++ [58])) (b := s.cps.toList) (by rw [← str_len]; simp; omega)
    rw [mk_of] at this
    simpa [Wv.w] using this
theorem ws_mem : ∀ {xs : List Wv} {x : Wv}, x ∈ xs → x.w.length ≤ (Wv.ws xs).length
  | y :: ys, x, h => by
    simp only [Wv.ws, List.length_append]
    rcases List.mem_cons.mp h with rfl | h
    · omega
    · have := ws_mem h; omega
theorem oks_mem : ∀ {xs : List Wv} {x : Wv}, Wv.oks xs → x ∈ xs → x.ok
  | y :: ys, x, h, hx => by
    rcases List.mem_cons.mp hx with rfl | hx
    · exact h.1
    · exact oks_mem h.2 hx
theorem deps_mem' : ∀ {xs : List Wv} {x : Wv}, x ∈ xs → x.dep ≤ Wv.deps xs
  | y :: ys, x, h => by
    simp only [Wv.deps]
    rcases List.mem_cons.mp h with rfl | h
    · omega
    · have := deps_mem' h; omega
theorem sum_ws : ∀ xs : List Wv, ((xs.map fun x => mk x.w).map fun s : Str => s.length).sum = (Wv.ws xs).length
  | [] => rfl
  | x :: xs => by
    have := sum_ws xs
    simp only [List.map_cons, List.sum_cons, Wv.ws, List.length_append, mk_len] at this ⊢
    omega
theorem flat_ws : ∀ xs : List Wv, (xs.map fun x => mk x.w).flatMap (fun y => y.cps.toList) = Wv.ws xs
  | [] => rfl
  | x :: xs => by
    simp only [List.map_cons, List.flatMap_cons, Wv.ws, mk_cps, flat_ws xs]
theorem j_ws {xs : List Wv} (h : (Wv.ws xs).length ≤ 1000000) : opJoin [.str "", .lst (xs.map fun x => .str (mk x.w))] = some (.v (.str (mk (Wv.ws xs)))) := by
  have j := opJoin_strs (a := "") (ys := xs.map fun x => mk x.w) (by
    have h0 : ("" : Str).length = 0 := rfl
    rw [sum_ws, h0]
    omega)
  rw [List.map_map] at j
  have e : Txt.join "" (xs.map fun x => mk x.w) = mk (Wv.ws xs) := str_ext (by rw [join_nil, flat_ws, mk_cps])
  rw [e] at j
  exact j
theorem w_tup {xs : List Wv} (h : (Wv.tup xs).w.length ≤ 1000000) : opAdd [.str "(", .str (mk (Wv.ws xs))] = some (.v (.str (mk (40 :: Wv.ws xs)))) ∧ opAdd [.str (mk (40 :: Wv.ws xs)), .str ")"] = some (.v (.str (mk (Wv.tup xs).w))) := by
  simp only [Wv.w, List.length_cons, List.length_append, List.length_nil] at h
  exact ⟨add_mk (a := [40]) (b := Wv.ws xs) (by simp; omega), add_mk (a := 40 :: Wv.ws xs) (b := [41]) (by simp; omega)⟩
end
theorem w_len_txt {s : Str} (h : (Wv.txt s).w.length ≤ 1000000) : s.length ≤ 1000000 := by
  simp only [Wv.w, List.length_cons, List.length_append] at h
  rw [str_len]; omega
theorem word_e : ∀ (n : Nat) (v : Wv), v.dep < n → v.ok → v.w.length ≤ 1000000 → F_word_text n [.v v.d] = .ok (.v (.str (mk v.w))) [none]
  | 0, v, h, _, _ => absurd h (Nat.not_lt_zero _)
  | n + 1, .non, _, _, _ => by
    show defM 2 [false] (m_word_text (F_word_text n)) _ = _
    unfold m_word_text
    simp! only [Wv.d]
    rfl
  | n + 1, .num k, _, hk, _ => by
    have hk : k < 10 ^ 9 := hk
    show defM 2 [false] (m_word_text (F_word_text n)) _ = _
    unfold m_word_text
    simp! only [Wv.d, str_nat hk, (w_num hk).1, (w_num hk).2]
  | n + 1, .txt s, _, hk, hl => by
    have hs := w_len_txt hl
    obtain ⟨a1, a2, a3⟩ := w_txt hs
    show defM 2 [false] (m_word_text (F_word_text n)) _ = _
    unfold m_word_text
    simp! only [Wv.d, opLen_str (small_line hs), str_nat (show s.length < 10 ^ 9 by omega), a1, a2, a3]
  | n + 1, .tup xs, hd, hk, hl => by
    obtain ⟨a1, a2⟩ := w_tup hl
    have hws : (Wv.ws xs).length ≤ 1000000 := by simp only [Wv.w, List.length_cons, List.length_append] at hl; omega
    have hxl : xs.length ≤ 1000000 := Nat.le_trans (ws_len xs) hws
    have hd : Wv.deps xs + 1 < n + 1 := hd
    have e := mComp_map (it := zIt (mVar 0)) (tg := .name 1) (vs := [1]) (e := mCall (F_word_text n) [.val true (mVar 1)]) (ρ := [some (.v (.tup (xs.map Wv.d))), none]) (ρ1 := [some (.v (.tup (xs.map Wv.d))), none]) xs Wv.d (fun x => .str (mk x.w)) (by simp! only []) (by simp! only []) (small_line hxl) (fun x hx => ⟨[some (.v (.tup (xs.map Wv.d))), some (.v x.d)], .v (.str (mk x.w)), [some (.v (.tup (xs.map Wv.d))), some (.v x.d)], by simp! only [], by
      have ih := word_e n x (by have := deps_mem' hx; omega) (oks_mem hk hx) (Nat.le_trans (ws_mem hx) hws)
      simp! only [ih], by simp! only [], by simp! only []⟩)
    show defM 2 [false] (m_word_text (F_word_text n)) _ = _
    unfold m_word_text
    simp! only [Wv.d, Wv.ds_map, e, j_ws hws, a1, a2]
theorem text_e : ∀ (n : Nat) (v : Wv), v.dep < n → v.ok → v.w.length ≤ 1000000 → F__law_text n [.v v.d] = .ok (.v (.str (mk v.w))) [none]
  | 0, v, h, _, _ => absurd h (Nat.not_lt_zero _)
  | n + 1, .non, _, _, _ => by
    show defM 2 [false] (m__law_text (F__law_text n)) _ = _
    unfold m__law_text
    simp! only [Wv.d]
    rfl
  | n + 1, .num k, _, hk, _ => by
    have hk : k < 10 ^ 9 := hk
    show defM 2 [false] (m__law_text (F__law_text n)) _ = _
    unfold m__law_text
    simp! only [Wv.d, str_nat hk, (w_num hk).1, (w_num hk).2]
  | n + 1, .txt s, _, hk, hl => by
    have hs := w_len_txt hl
    obtain ⟨a1, a2, a3⟩ := w_txt hs
    show defM 2 [false] (m__law_text (F__law_text n)) _ = _
    unfold m__law_text
    simp! only [Wv.d, opLen_str (small_line hs), str_nat (show s.length < 10 ^ 9 by omega), a1, a2, a3]
  | n + 1, .tup xs, hd, hk, hl => by
    obtain ⟨a1, a2⟩ := w_tup hl
    have hws : (Wv.ws xs).length ≤ 1000000 := by simp only [Wv.w, List.length_cons, List.length_append] at hl; omega
    have hxl : xs.length ≤ 1000000 := Nat.le_trans (ws_len xs) hws
    have hd : Wv.deps xs + 1 < n + 1 := hd
    have e := mComp_map (it := zIt (mVar 0)) (tg := .name 1) (vs := [1]) (e := mCall (F__law_text n) [.val true (mVar 1)]) (ρ := [some (.v (.tup (xs.map Wv.d))), none]) (ρ1 := [some (.v (.tup (xs.map Wv.d))), none]) xs Wv.d (fun x => .str (mk x.w)) (by simp! only []) (by simp! only []) (small_line hxl) (fun x hx => ⟨[some (.v (.tup (xs.map Wv.d))), some (.v x.d)], .v (.str (mk x.w)), [some (.v (.tup (xs.map Wv.d))), some (.v x.d)], by simp! only [], by
      have ih := text_e n x (by have := deps_mem' hx; omega) (oks_mem hk hx) (Nat.le_trans (ws_mem hx) hws)
      simp! only [ih], by simp! only [], by simp! only []⟩)
    show defM 2 [false] (m__law_text (F__law_text n)) _ = _
    unfold m__law_text
    simp! only [Wv.d, Wv.ds_map, e, j_ws hws, a1, a2]
/-- codes as numbers -/
def cI (cs : List Nat) : List Int := cs.map fun c => ((c : Nat) : Int)
theorem write_e {v : Wv} (h : v.dep < 560) (h1 : v.ok) (h2 : v.w.length ≤ 1000000) : F_write_word [.v v.d] = .ok (.l (((cI v.w).map D.int).map .v)) [none] := by
  have q := word_e 560 v h h1 h2
  have e := mComp_map (it := zIt (mCall (F_word_text 560) [.val true (mVar 0)])) (tg := .name 1) (vs := [1]) (e := mApp opOrd [.val true (mVar 1)]) (ρ := [some (.v v.d), none]) (ρ1 := [some (.v v.d), none]) v.w (fun c => .str (ch1 c)) (fun c => .int (c : Nat)) (by
    simp! only [q]
    unfold strD
    rw [mk_cps]
    rfl) (by simp! only []) (small_line h2) (fun x hx => ⟨[some (.v v.d), some (.v (.str (ch1 x)))], .v (.int (x : Nat)), [some (.v v.d), some (.v (.str (ch1 x)))], by simp! only [], by simp! only [show opOrd [.str (ch1 x)] = some (.v (.int x)) from rfl], by simp! only [], by simp! only []⟩)
  unfold F_write_word m_write_word
  simp! only [e]
  unfold cI
  rw [List.map_map, List.map_map, List.map_map]
  rfl
end Lw

namespace Lw
open PySem L2 Vs VsEv
open PySem.NumText
/-! the drawn value -/
def SW : Str := "a1;:()to<\n \""
theorem SW_ok : ((List.range 12).all fun k => match SW.cps.toList[k]? with
    | some c => sgB c
    | none => false) = true := by decide +kernel
theorem SW_at {k : Nat} (h : k < 12) : ∃ c, opIx [.str SW, .int k] = some (.v (.str (ch1 c))) ∧ sgB c = true := by
  have h1 := List.all_eq_true.mp SW_ok k (List.mem_range.mpr h)
  cases q : SW.cps.toList[k]? with
  | none => rw [q] at h1; cases h1
  | some c =>
    rw [q] at h1
    refine ⟨c, ?_, h1⟩
    rw [opIx_str (by decide +kernel), atI_ofNat, q]; rfl
def cV : Nat → Nat
  | 0 => 20
  | k + 1 => 20 + 3 * cV k
def pB : Nat → Nat
  | 0 => 12
  | k + 1 => 2 + 3 * pB k
def LB : Nat → Nat
  | 0 => 16
  | k + 1 => 2 + 3 * LB k
theorem cV_ge (k : Nat) : 20 ≤ cV k := by cases k <;> simp [cV]
theorem pB_ge : ∀ k : Nat, 12 ≤ pB k
  | 0 => by simp [pB]
  | k + 1 => by have := pB_ge k; simp only [pB]; omega
theorem LB_ge : ∀ k : Nat, 16 ≤ LB k
  | 0 => by simp [LB]
  | k + 1 => by have := LB_ge k; simp only [LB]; omega
theorem num_at {r : Nat} (hr : r < 100) {k : Nat} (hk : k < 5) : ∃ m : Nat, m < 10 ^ 9 ∧ opIx [.lst [.int 0, .int 7, .int 10, .int 123456789, .int r], .int k] = some (.v (.int m)) := by
  have : k = 0 ∨ k = 1 ∨ k = 2 ∨ k = 3 ∨ k = 4 := by omega
  rcases this with rfl | rfl | rfl | rfl | rfl
  · exact ⟨0, by decide, rfl⟩
  · exact ⟨7, by decide, rfl⟩
  · exact ⟨10, by decide, rfl⟩
  · exact ⟨123456789, by decide, rfl⟩
  · exact ⟨r, by omega, rfl⟩
def Vp (k : Nat) (v : Wv) : Prop := v.ok ∧ v.dep ≤ k ∧ pc v.w ≤ pB k ∧ v.w.length ≤ LB k
theorem outs {P : Wv → Prop} : ∀ {out : List D}, (∀ d ∈ out, ∃ v : Wv, d = v.d ∧ P v) → ∃ xs : List Wv, out = xs.map Wv.d ∧ ∀ x ∈ xs, P x
  | [], _ => ⟨[], rfl, fun x hx => by simp at hx⟩
  | d :: ds, h => by
    obtain ⟨v, rfl, hv⟩ := h d (.head _)
    obtain ⟨xs, rfl, hx⟩ := outs (out := ds) fun e he => h e (.tail _ he)
    exact ⟨v :: xs, rfl, fun x hx' => by
      rcases List.mem_cons.mp hx' with rfl | z
      · exact hv
      · exact hx x z⟩
theorem tup_vp {k : Nat} : ∀ {xs : List Wv}, (∀ x ∈ xs, Vp k x) → Wv.oks xs ∧ Wv.deps xs ≤ k ∧ pc (Wv.ws xs) ≤ xs.length * pB k ∧ (Wv.ws xs).length ≤ xs.length * LB k
  | [], _ => ⟨True.intro, by simp [Wv.deps], by simp [Wv.ws, pc], by simp [Wv.ws]⟩
  | x :: xs, h => by
    obtain ⟨a1, a2, a3, a4⟩ := h x (.head _)
    obtain ⟨b1, b2, b3, b4⟩ := tup_vp (xs := xs) fun y hy => h y (.tail _ hy)
    refine ⟨⟨a1, b1⟩, by simp only [Wv.deps]; omega, ?_, ?_⟩
    · simp only [Wv.ws, pc_app, List.length_cons, Nat.add_mul, Nat.one_mul]; omega
    · simp only [Wv.ws, List.length_append, List.length_cons, Nat.add_mul, Nat.one_mul]; omega
theorem Wd_e (t : List Int) (n : Nat) : (Wd t n).fz = .lst [.lst (t.map .int), .int n] := by
  unfold Wd
  simp [OD.fz, OD.fzs]
theorem txt_ex (t : List Int) (n level : Nat) (kd : OD) (hn : n < 900000000) : ∃ (cs : List Nat) (n' : Nat), n ≤ n' ∧ n' ≤ n + 14 ∧ cs.length ≤ 12 ∧ (∀ c ∈ cs, sgB c = true) ∧
    mComp (zRng1 (mCall F__law_pick [.plc 0, .val true (mC (.int 13))])) (.name 3) [3] bYes (mApp opIx [.val true (mC (.str "a1;:()to<\n \"")), .val false (mCall F__law_pick [.plc 0, .val true (mC (.int 12))])]) [some (Wd t n), some (.v (.int level)), some kd, none] = .ok (.l (((cs.map ch1).map D.str).map .v)) [some (Wd t n'), some (.v (.int level)), some kd, none] ∧ opJoin [.str "", .lst ((cs.map ch1).map D.str)] = some (.v (.str (mk cs))) := by
  have l1 := pk_lt (t := t) (n := n) (m := 13) (by omega) (by omega)
  have e1 : F__law_pick [Wd t n, .v (.int 13)] = .ok (.v (.int (pk t n 13))) [some (Wd t (n + 1)), none] := pk_e (t := t) (n := n) (m := 13) (by omega) (by omega)
  have hl : (rngD 0 (pk t n 13)).length = pk t n 13 := by simp [rngD]
  obtain ⟨out, ρ', e2, ⟨n', b1, b2, rfl⟩, h2, l2⟩ := mComp_left (it := zRng1 (mCall F__law_pick [.plc 0, .val true (mC (.int 13))])) (tg := .name 3) (vs := [3]) (e := mApp opIx [.val true (mC (.str SW)), .val false (mCall F__law_pick [.plc 0, .val true (mC (.int 12))])])
    (ρ := [some (Wd t n), some (.v (.int level)), some kd, none]) (ρ1 := [some (Wd t (n + 1)), some (.v (.int level)), some kd, none]) (ds := rngD 0 (pk t n 13)) (I := fun k ρ => ∃ n', n ≤ n' ∧ n' + k ≤ n + 14 ∧ ρ = [some (Wd t n'), some (.v (.int level)), some kd, none]) (P := fun d => ∃ c, d = .str (ch1 c) ∧ sgB c = true)
    (by simp! only [e1, rng1_int (n := (pk t n 13 : Int)) (by omega), Int.toNat_natCast]) (by rw [hl]; exact small_line (by omega)) ⟨n + 1, by omega, by omega, by simp! only []⟩ (by
      rintro k d ρ ⟨n', c1, c2, rfl⟩
      have e3 : F__law_pick [Wd t n', .v (.int 12)] = .ok (.v (.int (pk t n' 12))) [some (Wd t (n' + 1)), none] := pk_e (t := t) (n := n') (m := 12) (by omega) (by omega)
      obtain ⟨c, e4, hc⟩ := SW_at (pk_lt (t := t) (n := n') (m := 12) (by omega) (by omega))
      refine ⟨[some (Wd t n'), some (.v (.int level)), some kd, some (.v d)], .v (.str (ch1 c)), [some (Wd t (n' + 1)), some (.v (.int level)), some kd, some (.v d)], by simp! only [], by simp! only [e3, e4], ⟨c, by simp! only [], hc⟩, n' + 1, by omega, by omega, by simp! only []⟩)
  obtain ⟨cs, rfl, hcs⟩ := cs_of h2
  have hlc : cs.length = pk t n 13 := by simpa [hl] using l2
  have ej : Txt.join "" (cs.map ch1) = mk cs := str_ext (by rw [join_1, mk_cps])
  unfold SW at e2
  have eo := opJoin_strs (a := "") (ys := cs.map ch1) (by
    rw [sum_ch1]
    show cs.length + (cs.map ch1).length * 0 ≤ _
    omega)
  rw [ej] at eo
  exact ⟨cs, n', b1, by omega, by omega, hcs, e2, eo⟩
end Lw

namespace Lw
open PySem L2 Vs VsEv
open PySem.NumText
theorem value_ex (t : List Int) : ∀ (k level f n : Nat), level + k = 4 → k < f → n + cV k ≤ 700000000 → ∃ (v : Wv) (n' : Nat), n ≤ n' ∧ n' ≤ n + cV k ∧ Vp k v ∧ F__law_value f [Wd t n, .v (.int level)] = .ok (.v v.d) [some (Wd t n'), none]
  | k, level, 0, n, _, hf, _ => by omega
  | k, level, f + 1, n, hlv, hf, hn => by
    have hC := cV_ge k
    have hP := pB_ge k
    have hL := LB_ge k
    have e0 : F__law_pick [Wd t n, .v (.int 5)] = .ok (.v (.int (pk t n 5))) [some (Wd t (n + 1)), none] := pk_e (t := t) (n := n) (m := 5) (by omega) (by omega)
    have l0 := pk_lt (t := t) (n := n) (m := 5) (by omega) (by omega)
    show ∃ (v : Wv) (n' : Nat), n ≤ n' ∧ n' ≤ n + cV k ∧ Vp k v ∧ defM 4 [true, false] (m__law_value (R__law_value f 0)) [Wd t n, .v (.int level)] = .ok (.v v.d) [some (Wd t n'), none]
    by_cases h0 : pk t n 5 = 0
    · refine ⟨.non, n + 1, by omega, by omega, ⟨True.intro, by simp [Wv.dep], by simp [Wv.w, pc], by simp [Wv.w]; omega⟩, ?_⟩
      unfold m__law_value
      simp! only [e0, h0, Wv.d]
    by_cases h1 : pk t n 5 = 1
    · have e1 : F__law_pick [Wd t (n + 1), .v (.int 100)] = .ok (.v (.int (pk t (n + 1) 100))) [some (Wd t (n + 1 + 1)), none] := pk_e (t := t) (n := n + 1) (m := 100) (by omega) (by omega)
      have e2 : F__law_pick [Wd t (n + 1 + 1), .v (.int 5)] = .ok (.v (.int (pk t (n + 1 + 1) 5))) [some (Wd t (n + 1 + 1 + 1)), none] := pk_e (t := t) (n := n + 1 + 1) (m := 5) (by omega) (by omega)
      obtain ⟨m, hm, e3⟩ := num_at (pk_lt (t := t) (n := n + 1) (m := 100) (by omega) (by omega)) (pk_lt (t := t) (n := n + 1 + 1) (m := 5) (by omega) (by omega))
      have hd := (dg_len hm).2
      refine ⟨.num m, n + 1 + 1 + 1, by omega, by omega, ⟨hm, by simp [Wv.dep], ?_, by simp [Wv.w]; omega⟩, ?_⟩
      · simp only [Wv.w, pc_cons, pc_app, pc_dg]
        simp [pc]
      · unfold m__law_value
        simp! only [e0, h1, e1, e2, e3, Wv.d]
    obtain ⟨cs, n1, c1, c2, c3, c4, c5, c6⟩ := txt_ex t (n + 1) level (.v (.int (pk t n 5))) (by omega)
    have htx : Vp k (.txt (mk cs)) := by
      have hd := (dg_len (n := (mk cs).length) (by rw [mk_len]; omega)).2
      have hd2 : (dg (mk cs).length).length ≤ 2 := by
        rw [mk_len]
        have : ∀ j : Nat, j ≤ 12 → (dg j).length ≤ 2 := by decide +kernel
        exact this _ c3
      refine ⟨⟨by rw [mk_len]; omega, by rw [mk_cps]; exact c4⟩, by simp [Wv.dep], ?_, ?_⟩
      · simp only [Wv.w, pc_cons, pc_app, pc_dg, mk_cps]
        have := pc_le cs
        simp
        omega
      · simp only [Wv.w, List.length_cons, List.length_append, mk_cps]
        omega
    by_cases h2 : pk t n 5 = 2
    · refine ⟨.txt (mk cs), n1, by omega, by omega, htx, ?_⟩
      unfold m__law_value
      simp! only [e0, eq_true (show ((pk t n 5 : Int) = 2) by omega), show ¬ ((pk t n 5 : Int) = 0) by omega, show ¬ ((pk t n 5 : Int) = 1) by omega, c5, c6, Wv.d]
    cases k with
    | zero =>
      have hlv' : level = 4 := by omega
      refine ⟨.txt (mk cs), n1, by omega, by omega, htx, ?_⟩
      unfold m__law_value
      have x0 : ¬ ((pk t n 5 : Int) = 0) := by omega
      have x1 : ¬ ((pk t n 5 : Int) = 1) := by omega
      have x2 : ¬ ((pk t n 5 : Int) = 2) := by omega
      simp! only [e0, x0, x1, x2, show (level : Int) > 3 by omega, show (3 : Int) < level by omega, c5, c6, Wv.d]
    | succ k' =>
      have x0 : ¬ ((pk t n 5 : Int) = 0) := by omega
      have x1 : ¬ ((pk t n 5 : Int) = 1) := by omega
      have x2 : ¬ ((pk t n 5 : Int) = 2) := by omega
      have hk3 : ¬ ((level : Int) > 3) := by omega
      have hk3' : ¬ ((3 : Int) < level) := by omega
      have l1 := pk_lt (t := t) (n := n + 1) (m := 4) (by omega) (by omega)
      have e1 : F__law_pick [Wd t (n + 1), .v (.int 4)] = .ok (.v (.int (pk t (n + 1) 4))) [some (Wd t (n + 1 + 1)), none] := pk_e (t := t) (n := n + 1) (m := 4) (by omega) (by omega)
      have hl : (rngD 0 (pk t (n + 1) 4)).length = pk t (n + 1) 4 := by simp [rngD]
      have hlv2 : (level : Int) + 1 = ((level + 1 : Nat) : Int) := by omega
      have hcv : cV (k' + 1) = 20 + 3 * cV k' := rfl
      obtain ⟨kd, hkd⟩ : ∃ kd : OD, kd = .v (.int (pk t n 5)) := ⟨_, rfl⟩
      have hmul : cV k' * pk t (n + 1) 4 ≤ cV k' * 3 := Nat.mul_le_mul_left _ (by omega)
      obtain ⟨out, ρ', e2, ⟨n', b1, b2, rfl⟩, h2, l2⟩ := mComp_left (it := zRng1 (mCall F__law_pick [.plc 0, .val true (mC (.int 4))])) (tg := .name 3) (vs := [3]) (e := mCall (R__law_value f 0) [.plc 0, .val true (mApp opAdd [.val true (mVar 1), .val true (mC (.int 1))])])
        (ρ := [some (Wd t (n + 1)), some (.v (.int level)), some kd, none]) (ρ1 := [some (Wd t (n + 1 + 1)), some (.v (.int level)), some kd, none]) (ds := rngD 0 (pk t (n + 1) 4)) (I := fun k ρ => ∃ n', n ≤ n' ∧ n' + cV k' * k ≤ n + 2 + 3 * cV k' ∧ ρ = [some (Wd t n'), some (.v (.int level)), some kd, none]) (P := fun d => ∃ v : Wv, d = v.d ∧ Vp k' v)
        (by simp! only [e1, rng1_int (n := (pk t (n + 1) 4 : Int)) (by omega), Int.toNat_natCast]) (by rw [hl]; exact small_line (by omega)) ⟨n + 1 + 1, by omega, by rw [hl]; omega, by simp! only []⟩ (by
          rintro k d ρ ⟨n', g1, g2, rfl⟩
          simp only [Nat.mul_add, Nat.mul_one] at g2
          obtain ⟨v, n2, q1, q2, q3, q4⟩ := value_ex t k' (level + 1) f n' (by omega) (by omega) (by omega)
          have q4' : R__law_value f 0 [Wd t n', .v (.int ((level + 1 : Nat) : Int))] = .ok (.v v.d) [some (Wd t n2), none] := q4
          refine ⟨[some (Wd t n'), some (.v (.int level)), some kd, some (.v d)], .v v.d, [some (Wd t n2), some (.v (.int level)), some kd, some (.v d)], by simp! only [], by simp! only [hlv2, q4'], ⟨v, by simp! only [], q3⟩, n2, by omega, by omega, by simp! only []⟩)
      obtain ⟨xs, rfl, hxs⟩ := outs h2
      have hlen : xs.length ≤ 3 := by
        have : xs.length = pk t (n + 1) 4 := by simpa [hl] using l2
        omega
      obtain ⟨y1, y2, y3, y4⟩ := tup_vp hxs
      have hm1 : xs.length * pB k' ≤ 3 * pB k' := Nat.mul_le_mul_right _ hlen
      have hm2 : xs.length * LB k' ≤ 3 * LB k' := Nat.mul_le_mul_right _ hlen
      refine ⟨.tup xs, n', b1, by omega, ⟨y1, by simp only [Wv.dep]; omega, ?_, ?_⟩, ?_⟩
      · simp only [Wv.w, pc_cons, pc_app, pB]
        simp [pc] at y3 ⊢
        omega
      · simp only [Wv.w, List.length_cons, List.length_append, List.length_nil, LB]
        omega
      · subst hkd
        unfold m__law_value
        simp! only [e0, x0, x1, x2, hk3, hk3', e2, Wv.d, Wv.ds_map]
end Lw

namespace Lw
open PySem L2 Vs VsEv
open PySem.NumText
theorem cI_len (cs : List Nat) : (cI cs).length = cs.length := by simp [cI]
theorem cI_nat (cs : List Nat) : (cI cs).map Int.toNat = cs := by
  unfold cI
  rw [List.map_map]
  conv => rhs; rw [← List.map_id cs]
  exact List.map_congr_left fun c _ => rfl
theorem sgI_of {c : Nat} (h : sgB c = true) : sgI (c : Int) = true := by
  unfold sgB at h
  simp only [Bool.or_eq_true, Bool.and_eq_true, decide_eq_true_eq] at h
  unfold sgI
  simp only [decide_eq_true_eq]
  omega
theorem runI_of : ∀ (cs : List Nat) (A B : Rs), (∀ c ∈ cs, sgB c = true) → runN A cs = some B → runI A (cI cs) = .inl B
  | [], A, B, _, h => by cases h; rfl
  | c :: cs, A, B, hc, h => by
    simp only [runN] at h
    cases q : step A c with
    | none => rw [q] at h; cases h
    | some A1 =>
      rw [q] at h
      have ih := runI_of cs A1 B (fun x hx => hc x (.tail _ hx)) h
      show runI A ((c : Int) :: cI cs) = _
      simp only [runI, if_pos (sgI_of (hc c (.head _))), Int.toNat_natCast, q, ih]
theorem runI_inl : ∀ (is : List Int) (A B : Rs), runI A is = .inl B → (∀ i ∈ is, sgI i = true) ∧ runN A (is.map Int.toNat) = some B
  | [], A, B, h => by cases h; exact ⟨fun i hi => by simp at hi, rfl⟩
  | i :: is, A, B, h => by
    by_cases hs : sgI i = true
    · simp only [runI, if_pos hs] at h
      cases q : step A i.toNat with
      | none => rw [q] at h; cases h
      | some A1 =>
        rw [q] at h
        cases q2 : runI A1 is with
        | inr k => simp only [q2] at h; cases h
        | inl C =>
          simp only [q2] at h
          obtain rfl : C = B := Sum.inl.inj h
          obtain ⟨h1, h2⟩ := runI_inl is A1 C q2
          refine ⟨fun x hx => ?_, ?_⟩
          · rcases List.mem_cons.mp hx with rfl | hx
            · exact hs
            · exact h1 x hx
          · simp only [List.map_cons, runN, q, Option.bind_some, h2]
    · simp only [runI, if_neg hs] at h
      cases h
theorem dig_sg {c : Nat} (h : 48 ≤ c ∧ c ≤ 57) : sgB c = true := by
  unfold sgB
  simp only [Bool.or_eq_true, Bool.and_eq_true, decide_eq_true_eq]
  omega
mutual
theorem w_sg : ∀ v : Wv, v.ok → ∀ c ∈ v.w, sgB c = true
  | .non, _, c, hc => by simp [Wv.w] at hc; subst hc; decide
  | .num n, _, c, hc => by
    simp only [Wv.w, List.mem_cons, List.mem_append, List.not_mem_nil, or_false] at hc
    rcases hc with rfl | hc | rfl
    · decide
    · exact dig_sg (dg_all n c hc)
    · decide
  | .txt s, h, c, hc => by
    simp only [Wv.w, List.mem_cons, List.mem_append] at hc
    rcases hc with rfl | hc | rfl | hc
    · decide
    · exact dig_sg (dg_all _ c hc)
    · decide
    · exact (h : s.length < 10 ^ 9 ∧ ∀ c ∈ s.cps.toList, sgB c = true).2 c hc
  | .tup xs, h, c, hc => by
    simp only [Wv.w, List.mem_cons, List.mem_append, List.not_mem_nil, or_false] at hc
    rcases hc with rfl | hc | rfl
    · decide
    · exact ws_sg xs h c hc
    · decide
theorem ws_sg : ∀ xs : List Wv, Wv.oks xs → ∀ c ∈ Wv.ws xs, sgB c = true
  | [], _, c, hc => by simp [Wv.ws] at hc
  | x :: xs, h, c, hc => by
    simp only [Wv.ws, List.mem_append] at hc
    rcases hc with hc | hc
    · exact w_sg x h.1 c hc
    · exact ws_sg xs h.2 c hc
end
theorem ans_w {v : Wv} (h : v.ok) : ans (cI v.w) = .inl v := by
  have := runI_of v.w ([], .val) _ (w_sg v h) (read_w h)
  unfold ans
  rw [this]
theorem ans_inl {is : List Int} {v : Wv} (h : ans is = .inl v) : v.ok ∧ cI v.w = is := by
  unfold ans at h
  cases q : runI ([], .val) is with
  | inr k => rw [q] at h; cases h
  | inl B =>
    rw [q] at h
    obtain ⟨rs, m⟩ := B
    cases m with
    | over v' =>
      cases h
      obtain ⟨h1, h2⟩ := runI_inl is _ _ q
      have hs : ∀ c ∈ is.map Int.toNat, sgB c = true := fun c hc => by
        obtain ⟨i, hi, rfl⟩ := List.mem_map.mp hc
        exact (sgI_nat (h1 i hi)).1
      obtain ⟨g1, g2⟩ := read_back hs h2
      refine ⟨g1, ?_⟩
      rw [g2]
      unfold cI
      rw [List.map_map]
      conv => rhs; rw [← List.map_id is]
      exact List.map_congr_left fun i hi => (sgI_nat (h1 i hi)).2.symm
    | val => cases h
    | num ds => cases h
    | len ds => cases h
    | txt ds acc => cases h
/-! data that can be compared -/
theorem pl_int (i : Int) (n : Nat) : Pl (.int i) n := ⟨.int i, rfl, rfl, by simp [PyData.depth]⟩
theorem pl_non (n : Nat) : Pl .non n := ⟨.none, rfl, rfl, by simp [PyData.depth]⟩
theorem pl_bl (b : Bool) (n : Nat) : Pl (.bl b) n := ⟨.bool b, rfl, rfl, by simp [PyData.depth]⟩
theorem pl_ints (is : List Int) : Pl (.lst (is.map .int)) 1 := pl_lst fun d hd => by
  obtain ⟨i, _, rfl⟩ := List.mem_map.mp hd
  exact pl_int i 0
mutual
theorem pl_wv : ∀ v : Wv, Pl v.d v.dep
  | .non => pl_non 0
  | .num n => pl_int n 0
  | .txt s => pl_str s 0
  | .tup xs => pl_tup (pl_wvs xs)
theorem pl_wvs : ∀ xs : List Wv, ∀ d ∈ Wv.ds xs, Pl d (Wv.deps xs)
  | [], d, hd => by simp [Wv.ds] at hd
  | x :: xs, d, hd => by
    simp only [Wv.ds, List.mem_cons] at hd
    rcases hd with rfl | hd
    · exact (pl_wv x).up (by simp only [Wv.deps]; omega)
    · exact (pl_wvs xs d hd).up (by simp only [Wv.deps]; omega)
end
theorem ne_ints (is : List Int) : opNe [.lst (is.map .int), .lst (is.map .int)] = some (.v (.bl false)) := ((pl_ints is).up (by decide)).ne
theorem ne_val {v : Wv} (h : v.dep ≤ 50) : opNe [.tup [.str "value", v.d], .tup [.str "value", v.d]] = some (.v (.bl false)) :=
  (pl_tup (n := 50) fun d hd => by
    simp only [List.mem_cons, List.not_mem_nil, or_false] at hd
    rcases hd with rfl | rfl
    · exact pl_str _ _
    · exact (pl_wv v).up h).up (by decide) |>.ne
theorem ne_byte (k : Int) : opNe [.tup [.str "byte", .int k], .tup [.str "byte", .int k]] = some (.v (.bl false)) :=
  (pl_tup (n := 0) fun d hd => by
    simp only [List.mem_cons, List.not_mem_nil, or_false] at hd
    rcases hd with rfl | rfl
    · exact pl_str _ _
    · exact pl_int _ _).up (by decide) |>.ne
theorem ne_ref : opNe [.tup [.str "refused", .bl true], .tup [.str "refused", .bl true]] = some (.v (.bl false)) :=
  (pl_tup (n := 0) fun d hd => by
    simp only [List.mem_cons, List.not_mem_nil, or_false] at hd
    rcases hd with rfl | rfl
    · exact pl_str _ _
    · exact pl_bl _ _).up (by decide) |>.ne
end Lw

namespace Lw
open PySem L2 Vs VsEv
open PySem.NumText
/-! one turn of the law's loop (printed by mk11o.py) -/
def LB1 : SM := (zSeq (zSet 6 (mFz (mCall F__law_pick [.plc 1, .val true (mApp opAdd [.val true (mApp opLen [.val true (mVar 3)]), .val true (mC (.int 1))])]))) (zSeq (zSet 7 (mApp opIx [.val true (mLst [.val true (mC (.int 40)), .val true (mC (.int 41)), .val true (mC (.int 48)), .val true (mC (.int 49)), .val true (mC (.int 57)), .val true (mC (.int 58)), .val true (mC (.int 59)), .val true (mC (.int 110)), .val true (mC (.int 111)), .val true (mC (.int 116)), .val true (mC (.int 97)), .val true (mC (.int 37)), .val true (mC (.int 200)), .val true (mApp opNeg [.val true (mC (.int 1))]), .val true (mC (.int 10))]), .val false (mCall F__law_pick [.plc 1, .val true (mC (.int 15))])])) (zSeq (zSet 8 (mApp opIx [.val true (mLst [.val true (mApp (opSl false true) [.val true (mVar 3), .val true (mVar 6)]), .val true (mApp opAdd [.val true (mApp opAdd [.val true (mApp (opSl false true) [.val true (mVar 3), .val true (mVar 6)]), .val true (mLst [.val true (mVar 7)])]), .val true (mApp (opSl true false) [.val true (mVar 3), .val true (mVar 6)])]), .val true (mApp opAdd [.val true (mApp opAdd [.val true (mApp (opSl false true) [.val true (mVar 3), .val true (mVar 6)]), .val true (mLst [.val true (mVar 7)])]), .val true (mApp (opSl true false) [.val true (mVar 3), .val true (mApp opAdd [.val true (mVar 6), .val true (mC (.int 1))])])])]), .val false (mCall F__law_pick [.plc 1, .val true (mC (.int 3))])])) (zSeq (zSet 9 (mFz (mCall F__law_fault [.val true (mVar 8)]))) (zSeq (zSet 10 (mFz (mCall F__law_told [.val true (mVar 8)]))) (zIf (bOr (bAnd (asB (mApp opGe [.val true (mVar 9), .val true (mC (.int 0))])) (asB (mApp opNe [.val true (mVar 10), .val true (mTup [.val true (mC (.str "byte")), .val true (mVar 9)])]))) (bAnd (asB (mApp opLt [.val true (mVar 9), .val true (mC (.int 0))])) (bOr (asB (mApp opNe [.val true (mApp opIx [.val true (mVar 10), .val true (mC (.int 0))]), .val true (mC (.str "value"))])) (asB (mApp opNe [.val true (mCall F_write_word [.val true (mApp opIx [.val true (mVar 10), .val true (mC (.int 1))])]), .val true (mVar 8)]))))) (zRet (mC (.bl false))) zNext))))))
def LB2 : SM := (zIf (asB (mApp opNe [.val true (mCall F__law_told [.val true (mVar 11)]), .val true (mTup [.val true (mC (.str "refused")), .val true (mC (.bl true))])])) (zRet (mC (.bl false))) zNext)
def B15 : List Int := [40, 41, 48, 49, 57, 58, 59, 110, 111, 116, 97, 37, 200, -1, 10]
theorem cut_from2 {α : Type} (xs : List α) (j : Nat) : cutD xs (some (j : Int)) none = xs.drop j := by
  by_cases h : j ≤ xs.length
  · exact cut_from xs j h
  · unfold cutD
    rw [HT.sIx_none, HT.sIx_nat, Nat.min_eq_right (by omega), List.drop_eq_nil_of_le (Nat.le_refl _), List.drop_eq_nil_of_le (by omega)]
    simp
theorem sl_from {ds : List D} {j : Nat} : opSl true false [.lst ds, .int j] = some (.l ((ds.drop j).map .v)) := by
  show some (OD.l ((cutD ds (some (j : Int)) none).map OD.v)) = _
  rw [cut_from2 ds j]
theorem b15 {k : Nat} (h : k < 15) : ∃ b : Int, opIx [.lst [.int 40, .int 41, .int 48, .int 49, .int 57, .int 58, .int 59, .int 110, .int 111, .int 116, .int 97, .int 37, .int 200, .int (-1), .int 10], .int k] = some (.v (.int b)) := by
  have e : ([.int 40, .int 41, .int 48, .int 49, .int 57, .int 58, .int 59, .int 110, .int 111, .int 116, .int 97, .int 37, .int 200, .int (-1), .int 10] : List D) = B15.map .int := rfl
  have hk : k < B15.length := h
  refine ⟨B15[k], ?_⟩
  rw [e, opIx_lst, atI_nat (Int.natCast_nonneg k)]
  simp [List.getElem?_eq_getElem hk]
/-- the three texts -/
def bents (A : List Int) (j : Nat) (b : Int) : List (List Int) := [A.take j, A.take j ++ [b] ++ A.drop j, A.take j ++ [b] ++ A.drop (j + 1)]
theorem pick3 {xs : List (List Int)} (hl : xs.length = 3) {k : Nat} (h : k < 3) : ∃ x ∈ xs, opIx [.lst (xs.map fun x => D.lst (x.map .int)), .int k] = some (.v (.lst (x.map .int))) := by
  have hk : k < xs.length := by omega
  refine ⟨xs[k], List.getElem_mem hk, ?_⟩
  rw [opIx_lst, atI_nat (Int.natCast_nonneg k)]
  simp [List.getElem?_eq_getElem hk]
theorem pc_take (cs : List Nat) (j : Nat) : pc (cs.take j) + pc (cs.drop j) = pc cs := by rw [← pc_app, List.take_append_drop]
theorem pc_drop (cs : List Nat) (j : Nat) : pc (cs.drop (j + 1)) ≤ pc (cs.drop j) := by
  have h1 := pc_take (cs.drop j) 1
  have h2 : (cs.drop j).drop 1 = cs.drop (j + 1) := by rw [List.drop_drop]
  rw [h2] at h1
  omega
theorem bent_pc {w : List Nat} {j : Nat} {b : Int} {x : List Int} (hx : x ∈ bents (cI w) j b) : pc (x.map Int.toNat) ≤ pc w + 1 ∧ x.length ≤ w.length + 1 := by
  have t1 : ((cI w).take j).map Int.toNat = w.take j := by rw [List.map_take, cI_nat]
  have t2 : ∀ i, ((cI w).drop i).map Int.toNat = w.drop i := fun i => by rw [List.map_drop, cI_nat]
  have h1 := pc_take w j
  have h2 := pc_drop w j
  have h3 : pc [b.toNat] ≤ 1 := pc_le _
  have hl := cI_len w
  simp only [bents, List.mem_cons, List.not_mem_nil, or_false] at hx
  rcases hx with rfl | rfl | rfl
  · rw [t1]
    refine ⟨by omega, by rw [List.length_take]; omega⟩
  · simp only [List.map_append, t1, t2, pc_app, List.map_cons, List.map_nil, List.length_append, List.length_take, List.length_drop, List.length_cons, List.length_nil]
    refine ⟨by omega, by omega⟩
  · simp only [List.map_append, t1, t2, pc_app, List.map_cons, List.map_nil, List.length_append, List.length_take, List.length_drop, List.length_cons, List.length_nil]
    refine ⟨by omega, by omega⟩
section
variable {t : List Int} {n : Nat} {v : Wv} {x0 x4 x6 x7 x8 x9 x10 x11 : Option OD} {d5 : D}
theorem turn_e (hn : n < 900000000) (hv : v.ok) (hp : pc v.w ≤ 1052) (hw : v.w.length ≤ 1376) :
    ∃ y6 y7 y8 y9 y10, LB1 [x0, some (Wd t n), some (.v v.d), some (.v (.lst ((cI v.w).map .int))), x4, some (.v d5), x6, x7, x8, x9, x10, x11] = .ok .nx [x0, some (Wd t (n + 1 + 1 + 1)), some (.v v.d), some (.v (.lst ((cI v.w).map .int))), x4, some (.v d5), y6, y7, y8, y9, y10, x11] := by
  obtain ⟨A, hA⟩ : ∃ A, A = cI v.w := ⟨_, rfl⟩
  have hAl : A.length = v.w.length := by rw [hA, cI_len]
  have e1 : F__law_pick [Wd t n, .v (.int ((A.length + 1 : Nat) : Int))] = .ok (.v (.int (pk t n (A.length + 1)))) [some (Wd t (n + 1)), none] := pk_e (t := t) (n := n) (m := A.length + 1) (by omega) (by omega)
  have l1 := pk_lt (t := t) (n := n) (m := A.length + 1) (by omega) (by omega)
  obtain ⟨j, hj⟩ : ∃ j, j = pk t n (A.length + 1) := ⟨_, rfl⟩
  rw [← hj] at e1 l1
  have e2 : F__law_pick [Wd t (n + 1), .v (.int 15)] = .ok (.v (.int (pk t (n + 1) 15))) [some (Wd t (n + 1 + 1)), none] := pk_e (t := t) (n := n + 1) (m := 15) (by omega) (by omega)
  obtain ⟨b, e3⟩ := b15 (pk_lt (t := t) (n := n + 1) (m := 15) (by omega) (by omega))
  have e4 : F__law_pick [Wd t (n + 1 + 1), .v (.int 3)] = .ok (.v (.int (pk t (n + 1 + 1) 3))) [some (Wd t (n + 1 + 1 + 1)), none] := pk_e (t := t) (n := n + 1 + 1) (m := 3) (by omega) (by omega)
  obtain ⟨x, hx, e5⟩ := pick3 (xs := bents A j b) rfl (pk_lt (t := t) (n := n + 1 + 1) (m := 3) (by omega) (by omega))
  rw [hA] at hx
  obtain ⟨q1, q2⟩ := bent_pc hx
  rw [← hA] at hx
  have e6 := fault_e x (by omega)
  have e7 := told_e x (by omega)
  have hAD : (A.map D.int).length = A.length := List.length_map _
  have s1 : opSl false true [.lst (A.map .int), .int j] = some (.l (((A.take j).map D.int).map .v)) := by
    rw [opSl_to (by rw [hAD]; omega)]
    simp only [List.map_take]
  have s2 : opSl true false [.lst (A.map .int), .int j] = some (.l (((A.drop j).map D.int).map .v)) := by
    rw [sl_from]
    simp only [List.map_drop]
  have s3 : opSl true false [.lst (A.map .int), .int ((j : Int) + 1)] = some (.l (((A.drop (j + 1)).map D.int).map .v)) := by
    have : ((j : Int) + 1) = ((j + 1 : Nat) : Int) := by omega
    rw [this, sl_from]
    simp only [List.map_drop]
  have a1 : opAdd [.lst ((A.take j).map D.int), .lst [.int b]] = some (.l (((A.take j ++ [b]).map D.int).map .v)) := by
    rw [opAdd_lst (small_line (by rw [List.length_map, List.length_take]; simp; omega))]
    simp
  have a2 : opAdd [.lst ((A.take j ++ [b]).map D.int), .lst ((A.drop j).map D.int)] = some (.l (((A.take j ++ [b] ++ A.drop j).map D.int).map .v)) := by
    rw [opAdd_lst (small_line (by rw [List.length_map, List.length_map, List.length_append, List.length_take, List.length_drop]; simp; omega)), ← List.map_append]
  have a3 : opAdd [.lst ((A.take j ++ [b]).map D.int), .lst ((A.drop (j + 1)).map D.int)] = some (.l (((A.take j ++ [b] ++ A.drop (j + 1)).map D.int).map .v)) := by
    rw [opAdd_lst (small_line (by rw [List.length_map, List.length_map, List.length_append, List.length_take, List.length_drop]; simp; omega)), ← List.map_append]
  have e5' : opIx [.lst [.lst ((A.take j).map D.int), .lst ((A.take j ++ [b] ++ A.drop j).map D.int), .lst ((A.take j ++ [b] ++ A.drop (j + 1)).map D.int)], .int (pk t (n + 1 + 1) 3)] = some (.v (.lst (x.map .int))) := e5
  have lc : ((A.length : Nat) : Int) + 1 = ((A.length + 1 : Nat) : Int) := by omega
  rw [← hA]
  unfold LB1
  cases q : ans x with
  | inr k =>
    have f1 : flt x = k := by unfold flt; rw [q]
    have f2 : tld x = .tup [.str "byte", .int k] := by unfold tld; rw [q]
    rw [f1] at e6
    rw [f2] at e7
    refine ⟨some (.v (.int j)), some (.v (.int b)), some (.v (.lst (x.map .int))), some (.v (.int k)), some (.v (.tup [.str "byte", .int k])), ?_⟩
    have nb := ne_byte k
    simp! only [hAD, lc, e1, e2, e3, e4, s1, s2, s3, a1, a2, a3, e5', e6, e7, nb, show ((k : Int) ≥ 0) by omega, show ((0 : Int) ≤ k) by omega, show ¬ ((k : Int) < 0) by omega]
  | inl v' =>
    have f1 : flt x = -1 := by unfold flt; rw [q]
    have f2 : tld x = .tup [.str "value", v'.d] := by unfold tld; rw [q]
    rw [f1] at e6
    rw [f2] at e7
    obtain ⟨g1, g2⟩ := ans_inl q
    have g3 : x.map Int.toNat = v'.w := by rw [← g2, cI_nat]
    have g4 := v'.dep_pc
    rw [← g3] at g4
    have g5 : v'.w.length = x.length := by rw [← g3, List.length_map]
    have g6 := write_e (v := v') (by omega) g1 (by omega)
    rw [g2] at g6
    refine ⟨some (.v (.int j)), some (.v (.int b)), some (.v (.lst (x.map .int))), some (.v (.int (-1))), some (.v (.tup [.str "value", v'.d])), ?_⟩
    have nb := ne_ints x
    simp! only [hAD, lc, e1, e2, e3, e4, s1, s2, s3, a1, a2, a3, e5', e6, e7, g6, nb, show ¬ ((-1 : Int) ≥ 0) by decide, show ¬ ((0 : Int) ≤ -1) by decide, show ((-1 : Int) < 0) by decide]
end
end Lw


namespace Lw
open PySem L2 Vs VsEv
open PySem.NumText
section
variable {t : List Int} {v : Wv} {x0 : Option OD}
theorem main_loop (hv : v.ok) (hp : pc v.w ≤ 1052) (hw : v.w.length ≤ 1376) : ∀ (ds : List D) (n : Nat) (x4 x5 x6 x7 x8 x9 x10 x11 : Option OD), n + 3 * ds.length < 900000000 →
    ∃ n' y5 y6 y7 y8 y9 y10, zFor (.name 5) LB1 ds [x0, some (Wd t n), some (.v v.d), some (.v (.lst ((cI v.w).map .int))), x4, x5, x6, x7, x8, x9, x10, x11] = .ok .nx [x0, some (Wd t n'), some (.v v.d), some (.v (.lst ((cI v.w).map .int))), x4, y5, y6, y7, y8, y9, y10, x11]
  | [], n, x4, x5, x6, x7, x8, x9, x10, x11, h => ⟨n, x5, x6, x7, x8, x9, x10, rfl⟩
  | d :: ds, n, x4, x5, x6, x7, x8, x9, x10, x11, h => by
    simp only [List.length_cons] at h
    obtain ⟨y6, y7, y8, y9, y10, e⟩ := turn_e (t := t) (n := n) (v := v) (x0 := x0) (x4 := x4) (x6 := x6) (x7 := x7) (x8 := x8) (x9 := x9) (x10 := x10) (x11 := x11) (d5 := d) (by omega) hv hp hw
    obtain ⟨n', z5, z6, z7, z8, z9, z10, e2⟩ := main_loop hv hp hw ds (n + 1 + 1 + 1) x4 (some (.v d)) y6 y7 y8 y9 y10 x11 (by omega)
    refine ⟨n', z5, z6, z7, z8, z9, z10, ?_⟩
    rw [zFor_cons, tgt_name]
    simp! only [forS_some, e, e2]
end
theorem law_true : ∀ ns : List Int, ns.length ≤ 63 → ∃ bk, F_law [.v (.rol (ns.map .int))] = .ok (.v (.bl true)) bk := by
  intro ns hns
  obtain ⟨t, e1⟩ := tape_ex ns hns
  obtain ⟨v, n1, a1, a2, ⟨a3, a4, a5, a6⟩, e2⟩ := value_ex t 4 0 40 0 rfl (by decide) (by decide)
  have hP : pB 4 = 1052 := by decide
  have hL : LB 4 = 1376 := by decide
  have hC : cV 4 = 2420 := by decide
  have e2' : F__law_value 40 [.l [.v (.lst (t.map D.int)), .v (.int 0)], .v (.int 0)] = .ok (.v v.d) [some (Wd t n1), none] := e2
  have e3 := text_e 40 v (by omega) a3 (by omega)
  have e4 := write_e (v := v) (by omega) a3 (by omega)
  have e5 := told_e (cI v.w) (by rw [cI_len]; omega)
  have e6 := fault_e (cI v.w) (by rw [cI_len]; omega)
  have q := ans_w a3
  have f1 : flt (cI v.w) = -1 := by unfold flt; rw [q]
  have f2 : tld (cI v.w) = .tup [.str "value", v.d] := by unfold tld; rw [q]
  rw [f2] at e5
  rw [f1] at e6
  have nb1 := ne_ints (cI v.w)
  have nb2 := ne_val (v := v) (by omega)
  have ec := mComp_map (it := zIt (mCall (F__law_text 40) [.val true (mVar 2)])) (tg := .name 4) (vs := [4]) (e := mApp opOrd [.val true (mVar 4)]) (ρ := [some (.v (.rol (ns.map .int))), some (Wd t n1), some (.v v.d), none, none, none, none, none, none, none, none, none]) (ρ1 := [some (.v (.rol (ns.map .int))), some (Wd t n1), some (.v v.d), none, none, none, none, none, none, none, none, none]) v.w (fun c => .str (ch1 c)) (fun c => .int (c : Nat)) (by
    simp! only [e3]
    unfold strD
    rw [mk_cps]
    rfl) (by simp! only []) (small_line (by omega)) (fun x hx => ⟨[some (.v (.rol (ns.map .int))), some (Wd t n1), some (.v v.d), none, some (.v (.str (ch1 x))), none, none, none, none, none, none, none], .v (.int (x : Nat)), [some (.v (.rol (ns.map .int))), some (Wd t n1), some (.v v.d), none, some (.v (.str (ch1 x))), none, none, none, none, none, none, none], by simp! only [], by simp! only [show opOrd [.str (ch1 x)] = some (.v (.int x)) from rfl], by simp! only [], by simp! only []⟩)
  have hcI : v.w.map (fun c => D.int (c : Nat)) = (cI v.w).map .int := by
    unfold cI
    rw [List.map_map]
    rfl
  rw [hcI] at ec
  obtain ⟨n2, y5, y6, y7, y8, y9, y10, el⟩ := main_loop (t := t) (v := v) (x0 := some (.v (.rol (ns.map .int)))) a3 (by omega) (by omega) (rngD 0 8) n1 none none none none none none none none (by simp [rngD]; omega)
  show ∃ bk, defM 12 [false] (zSeq (zSet 1 (mLst [.val true (mCall F__law_tape [.val true (mVar 0)]), .val true (mC (.int 0))])) (zSeq (zSet 2 (mFz (mCall (F__law_value 40) [.plc 1, .val true (mC (.int 0))]))) (zSeq (zSet 3 (mFz (mComp (zIt (mCall (F__law_text 40) [.val true (mVar 2)])) (.name 4) [4] bYes (mApp opOrd [.val true (mVar 4)])))) (zSeq (zIf (bOr (asB (mApp opNe [.val true (mCall F_write_word [.val true (mVar 2)]), .val true (mVar 3)])) (bOr (asB (mApp opNe [.val true (mCall F__law_told [.val true (mVar 3)]), .val true (mTup [.val true (mC (.str "value")), .val true (mVar 2)])])) (asB (mApp opNe [.val true (mCall F__law_fault [.val true (mVar 3)]), .val true (mApp opNeg [.val true (mC (.int 1))])])))) (zRet (mC (.bl false))) zNext) (zSeq (zForIn (zRng1 (mC (.int 8))) (.name 5) LB1) (zSeq (zForIn (zIt (mTup [.val true (mC .non), .val true (mC (.str "o")), .val true (mTup [.val true (mC (.int 111))]), .val true (mLst [.val true (mC .non)]), .val true (mLst [.val true (mC (.bl true))])])) (.name 11) LB2) (zRet (mC (.bl true))))))))) _ = _
  refine ⟨[none], ?_⟩
  have r8 := rng1_int (n := 8) (by decide)
  simp! only [e1, e2', ec, e4, e5, e6, nb1, nb2, r8, Int.reduceToNat, el]
  unfold LB2
  simp! only [told_1, told_2, told_3, told_4, told_5, ne_ref, zFor_cons, zFor_nil, forS_some]
end Lw


theorem PySem.Challenge.cw_hewstream_k11_words_holds : PySem.Challenge.rw_hewstream_k11_words.Holds := by
  exact Lw.head Lw.law_true
