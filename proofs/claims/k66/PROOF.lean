import PyProof.Rows.All
import Wide.All
import OpenK.AllK
import Wide.FinOn
import HandS.ForMost
import HandS.Walk
import HandS.Wide
import HandS.Style
import HandS.TupAny
import HandS.IsInst
import HandS.SortInts
import HandS.Deep
import HandS.Conv
import KE.KTupSum
import KE.GoesEnum
import KE.GoesMore
import HandS.ExcOwn
import HandS.SetFor
import HandS.Small
import HandS.TupLen
import HandS.SortRule
import HandS.Strs
import HandS.Words
import HandS.EndBits
import PySem.Challenge.RW_huedties_k66_rounds_of_many
set_option Elab.async false
set_option linter.all false
set_option maxRecDepth 100000
/-! HuA: trees of data, how they lie in the abstract heap, slots against trees. -/
namespace Hu
open PySem L2

abbrev D := PyData
/-- the written part, the classes' addresses -/
structure Par where
  K : PySem.W.Frag
  cls : Str → Addr

/-- a tree: frozen data, or what is owned -/
inductive T where
  | d (x : D)
  | scr (ns : List Int)
  | lst (ts : List T)
  | tup (ts : List T)
  | dK (kvs : List (Key × T))
  | dT (kvs : List (List Key × T))
  | ins (c : Str) (fs : List (Str × T))
  deriving Inhabited
abbrev Rho := List (Option T)

def isT : HO → Bool
  | .tup _ => true
  | _ => false

def kD : Key → D
  | .inl i => .int i
  | .inr x => .str x

/-! ### frozen data -/
mutual
inductive Fz (K : Par) (F : Hp) : V → D → Prop
  | non : Fz K F .non .none
  | bl (b : Bool) : Fz K F (.bl b) (.bool b)
  | int (i : Int) : Fz K F (.int i) (.int i)
  | str (x : Str) : Fz K F (.str x) (.str x)
  | lst {a : Addr} {xs : List V} {ds : List D} : F a = some (.lst xs) → FzA K F xs ds → Fz K F (.ref a) (.list ds)
  | tup {a : Addr} {xs : List V} {ds : List D} : F a = some (.tup xs) → FzA K F xs ds → Fz K F (.ref a) (.tuple ds)
  | dic {a : Addr} {kvs : List (Key × V)} {ds : List (D × D)} : F a = some (.dK kvs) → ds.map Prod.fst = kvs.map (fun p => kD p.1) → FzA K F (kvs.map Prod.snd) (ds.map Prod.snd) → Fz K F (.ref a) (.dict ds)
inductive FzA (K : Par) (F : Hp) : List V → List D → Prop
  | nil : FzA K F [] []
  | cons {v : V} {vs : List V} {x : D} {xs : List D} : Fz K F v x → FzA K F vs xs → FzA K F (v :: vs) (x :: xs)
end

mutual
theorem Fz.mono {K : Par} {F F' : Hp} {v : V} {x : D} (e : Same F F') : Fz K F v x → Fz K F' v x
  | .non => .non
  | .bl b => .bl b
  | .int i => .int i
  | .str z => .str z
  | .lst h1 h2 => .lst (e _ _ h1) (FzA.mono e h2)
  | .tup h1 h2 => .tup (e _ _ h1) (FzA.mono e h2)
  | .dic h1 h2 h3 => .dic (e _ _ h1) h2 (FzA.mono e h3)
theorem FzA.mono {K : Par} {F F' : Hp} {vs : List V} {xs : List D} (e : Same F F') : FzA K F vs xs → FzA K F' vs xs
  | .nil => .nil
  | .cons h1 h2 => .cons (Fz.mono e h1) (FzA.mono e h2)
end

mutual
/-- no list, no dict within -/
def imm : D → Bool
  | .list _ => false
  | .dict _ => false
  | .tuple xs => immA xs
  | .none => true
  | .bool _ => true
  | .int _ => true
  | .str _ => true
def immA : List D → Bool
  | [] => true
  | x :: xs => imm x && immA xs
end
def TupSub (F F' : Hp) : Prop := ∀ a xs, F a = some (.tup xs) → F' a = some (.tup xs)
mutual
theorem Fz.immMono {K : Par} {F F' : Hp} {v : V} {x : D} (e : TupSub F F') : Fz K F v x → imm x = true → Fz K F' v x
  | .non, _ => .non
  | .bl b, _ => .bl b
  | .int i, _ => .int i
  | .str z, _ => .str z
  | .tup h1 h2, q => .tup (e _ _ h1) (FzA.immMono e h2 (by simpa [imm] using q))
theorem FzA.immMono {K : Par} {F F' : Hp} {vs : List V} {xs : List D} (e : TupSub F F') : FzA K F vs xs → immA xs = true → FzA K F' vs xs
  | .nil, _ => .nil
  | .cons h1 h2, q => by
    simp only [immA, Bool.and_eq_true] at q
    exact .cons (Fz.immMono e h1 q.1) (FzA.immMono e h2 q.2)
end
mutual
def noDict : D → Bool
  | .list xs => noDictA xs
  | .dict _ => false
  | .tuple xs => noDictA xs
  | .none => true
  | .bool _ => true
  | .int _ => true
  | .str _ => true
def noDictA : List D → Bool
  | [] => true
  | x :: xs => noDict x && noDictA xs
end
theorem sqT_any {K : PySem.W.Frag} {H : Hp} {a : Addr} {xs : List V} (h : SqT K (fun _ => none) a xs) : SqT K H a xs := by
  (rcases h with (h | ⟨o, h⟩) | h)
  · cases h
  · cases h
  · exact .inr h
mutual
theorem Fz.dp {K : Par} {F H : Hp} {v : V} {x : D} (e : Same F H) : Fz K F v x → noDict x = true → Dp K.K H v x
  | .non, _ => .non
  | .bl b, _ => .bl b
  | .int i, _ => .int i
  | .str z, _ => .str z
  | .lst h1 h2, q => .lst (SqL.of (e _ _ h1)) (FzA.dp e h2 (by simpa [noDict] using q))
  | .tup h1 h2, q => .tup (SqT.of (e _ _ h1)) (FzA.dp e h2 (by simpa [noDict] using q))
theorem FzA.dp {K : Par} {F H : Hp} {vs : List V} {xs : List D} (e : Same F H) : FzA K F vs xs → noDictA xs = true → DpAll K.K H vs xs
  | .nil, _ => .nil
  | .cons h1 h2, q => by
    simp only [noDictA, Bool.and_eq_true] at q
    exact .cons (Fz.dp e h1 q.1) (FzA.dp e h2 q.2)
end
theorem FzA.length {K : Par} {F : Hp} : ∀ {vs : List V} {xs : List D}, FzA K F vs xs → vs.length = xs.length
  | _, _, .nil => rfl
  | _, _, .cons _ h => by simp [FzA.length h]
theorem FzA.get {K : Par} {F : Hp} : ∀ {vs : List V} {xs : List D} {i : Nat} {x : D}, FzA K F vs xs → xs[i]? = some x → ∃ v, vs[i]? = some v ∧ Fz K F v x
  | _, _, _, _, .nil, h => by simp at h
  | _, _, 0, _, .cons h1 _, h => by simp at h; subst h; exact ⟨_, by simp, h1⟩
  | _, _, i + 1, _, .cons _ h2, h => by
    obtain ⟨v, e, q⟩ := FzA.get (i := i) h2 (by simpa using h)
    exact ⟨v, by simpa using e, q⟩
theorem FzA.append {K : Par} {F : Hp} : ∀ {vs ws : List V} {xs ys : List D}, FzA K F vs xs → FzA K F ws ys → FzA K F (vs ++ ws) (xs ++ ys)
  | _, _, _, _, .nil, h => h
  | _, _, _, _, .cons h1 h2, h => .cons h1 (FzA.append h2 h)
theorem FzA.take {K : Par} {F : Hp} : ∀ {vs : List V} {xs : List D} (n : Nat), FzA K F vs xs → FzA K F (vs.take n) (xs.take n)
  | _, _, 0, _ => by simpa using FzA.nil
  | _, _, _ + 1, .nil => by simpa using FzA.nil
  | _, _, n + 1, .cons h1 h2 => by simpa using FzA.cons h1 (FzA.take n h2)
theorem FzA.drop {K : Par} {F : Hp} : ∀ {vs : List V} {xs : List D} (n : Nat), FzA K F vs xs → FzA K F (vs.drop n) (xs.drop n)
  | _, _, 0, h => by simpa using h
  | _, _, _ + 1, .nil => by simpa using FzA.nil
  | _, _, n + 1, .cons _ h2 => by simpa using FzA.drop n h2

theorem sqL_on {K : PySem.W.Frag} {F H : Hp} {a : Addr} {xs : List V} (e : Same F H) (h : SqL K F a xs) : SqL K H a xs := by
  rcases h with h | h
  · rcases h with h | ⟨o, h⟩
    · exact .inl (.inl (e _ _ h))
    · (exact .inl (.inr ⟨o, e _ _ h⟩))
  · exact .inr h
/-! ### trees in the heap; the last argument: the owned cells -/
mutual
inductive R (K : Par) (F H : Hp) : V → T → List Addr → Prop
  | d {v : V} {x : D} : Fz K F v x → R K F H v (.d x) []
  | scr {a : Addr} {ns : List Int} : SqL K.K F a (ns.map V.int) → R K F H (.ref a) (.scr ns) []
  | lst {a : Addr} {vs : List V} {ts : List T} {A : List Addr} : H a = some (.lst vs) → RA K F H vs ts A → a ∉ A → R K F H (.ref a) (.lst ts) (a :: A)
  | tup {a : Addr} {vs : List V} {ts : List T} {A : List Addr} : H a = some (.tup vs) → RA K F H vs ts A → R K F H (.ref a) (.tup ts) A
  | dK {a : Addr} {es : List (Key × V)} {kvs : List (Key × T)} {A : List Addr} : H a = some (.dK es) → es.map Prod.fst = kvs.map Prod.fst → RA K F H (es.map Prod.snd) (kvs.map Prod.snd) A → a ∉ A → R K F H (.ref a) (.dK kvs) (a :: A)
  | dT {a : Addr} {es : List (List Key × V)} {kvs : List (List Key × T)} {A : List Addr} : H a = some (.dT es) → es.map Prod.fst = kvs.map Prod.fst → RA K F H (es.map Prod.snd) (kvs.map Prod.snd) A → a ∉ A → R K F H (.ref a) (.dT kvs) (a :: A)
  | ins {a dx : Addr} {c : Str} {es : List (Str × V)} {fs : List (Str × T)} {A : List Addr} : H a = some (.ins (K.cls c) dx es) → H dx = some (.own a) → es.map Prod.fst = fs.map Prod.fst → RA K F H (es.map Prod.snd) (fs.map Prod.snd) A → a ∉ A → dx ∉ A →
      R K F H (.ref a) (.ins c fs) (a :: dx :: A)
inductive RA (K : Par) (F H : Hp) : List V → List T → List Addr → Prop
  | nil : RA K F H [] [] []
  | cons {v : V} {vs : List V} {t : T} {ts : List T} {A B : List Addr} : R K F H v t A → RA K F H vs ts B → (∀ a, a ∈ A → a ∉ B) → RA K F H (v :: vs) (t :: ts) (A ++ B)
end

theorem R.fz {K : Par} {F H : Hp} {v : V} {x : D} {A : List Addr} (r : R K F H v (.d x) A) : Fz K F v x := by cases r with | d h => exact h
/-- the cells are there, none of them a tuple -/
def Live (H : Hp) (A : List Addr) : Prop := ∀ a, a ∈ A → ∃ o, H a = some o ∧ isT o = false
mutual
theorem R.live {K : Par} {F H : Hp} {v : V} {t : T} {A : List Addr} : R K F H v t A → Live H A
  | .d _ => fun a h => by cases h
  | .scr _ => fun a h => by cases h
  | .lst h1 h2 _ => fun a h => by
    (rcases List.mem_cons.mp h with rfl | h)
    · exact ⟨_, h1, rfl⟩
    · exact RA.live h2 a h
  | .tup h1 h2 => RA.live h2
  | .dK h1 _ h2 _ => fun a h => by
    (rcases List.mem_cons.mp h with rfl | h)
    · exact ⟨_, h1, rfl⟩
    · exact RA.live h2 a h
  | .dT h1 _ h2 _ => fun a h => by
    (rcases List.mem_cons.mp h with rfl | h)
    · exact ⟨_, h1, rfl⟩
    · exact RA.live h2 a h
  | .ins h1 h0 _ h2 _ _ => fun a h => by
    (rcases List.mem_cons.mp h with rfl | h)
    · exact ⟨_, h1, rfl⟩
    · (rcases List.mem_cons.mp h with rfl | h)
      · exact ⟨_, h0, rfl⟩
      · exact RA.live h2 a h
theorem RA.live {K : Par} {F H : Hp} {vs : List V} {ts : List T} {A : List Addr} : RA K F H vs ts A → Live H A
  | .nil => fun a h => by cases h
  | .cons h1 h2 _ => fun a h => by
    (rcases List.mem_append.mp h with h | h)
    · exact R.live h1 a h
    · exact RA.live h2 a h
end
/-- the frame: the owned cells and the tuples stand -/
def StayA (H H' : Hp) (A : List Addr) : Prop := (∀ a, a ∈ A → H' a = H a) ∧ TupSub H H'
mutual
theorem R.frame {K : Par} {F F' H H' : Hp} {v : V} {t : T} {A : List Addr} (e : Same F F') (s : TupSub H H') : R K F H v t A → (∀ a, a ∈ A → H' a = H a) → R K F' H' v t A
  | .d h, _ => .d (h.mono e)
  | .scr h, _ => .scr (sqL_on e h)
  | .lst h1 h2 n, q => .lst ((q _ List.mem_cons_self).trans h1) (RA.frame e s h2 fun a h => q a (List.mem_cons_of_mem _ h)) n
  | .tup h1 h2, q => .tup (s _ _ h1) (RA.frame e s h2 q)
  | .dK h1 h0 h2 n, q => .dK ((q _ List.mem_cons_self).trans h1) h0 (RA.frame e s h2 fun a h => q a (List.mem_cons_of_mem _ h)) n
  | .dT h1 h0 h2 n, q => .dT ((q _ List.mem_cons_self).trans h1) h0 (RA.frame e s h2 fun a h => q a (List.mem_cons_of_mem _ h)) n
  | .ins h1 h3 h0 h2 n m, q => .ins ((q _ List.mem_cons_self).trans h1) ((q _ (List.mem_cons_of_mem _ List.mem_cons_self)).trans h3) h0 (RA.frame e s h2 fun a h => q a (List.mem_cons_of_mem _ (List.mem_cons_of_mem _ h))) n m
theorem RA.frame {K : Par} {F F' H H' : Hp} {vs : List V} {ts : List T} {A : List Addr} (e : Same F F') (s : TupSub H H') : RA K F H vs ts A → (∀ a, a ∈ A → H' a = H a) → RA K F' H' vs ts A
  | .nil, _ => .nil
  | .cons h1 h2 n, q => .cons (R.frame e s h1 fun a h => q a (List.mem_append_left _ h)) (RA.frame e s h2 fun a h => q a (List.mem_append_right _ h)) n
end
theorem RA.length {K : Par} {F H : Hp} : ∀ {vs : List V} {ts : List T} {A : List Addr}, RA K F H vs ts A → vs.length = ts.length
  | _, _, _, .nil => rfl
  | _, _, _, .cons _ h _ => by simp [RA.length h]

/-! ### slots against trees -/
structure Sim (K : Par) (F H : Hp) (σ : St) (ρ : Rho) (fp : Nat → List Addr) : Prop where
  len : σ.length = ρ.length
  sl : ∀ (i : Nat) t, ρ[i]? = some (some t) → ∃ v, σ[i]? = some (some v) ∧ R K F H v t (fp i)
  dj : ∀ (i j : Nat), i ≠ j → ∀ a, a ∈ fp i → a ∉ fp j
  ff : ∀ (i : Nat) a, a ∈ fp i → F a = none
  mt : ∀ (i : Nat), Live H (fp i)
  sub : Same F H

/-- from one state on to another; A: cells of what was made -/
structure Ext (F H : Hp) (fp : Nat → List Addr) (F' H' : Hp) (fp' : Nat → List Addr) (A : List Addr) : Prop where
  keep : ∀ a o, H a = some o → (∀ i, a ∉ fp i) → H' a = some o
  fsub : Same F F'
  fnew : ∀ a o, F' a = some o → F a = some o ∨ H a = none ∨ isT o = true ∨ ∃ i, a ∈ fp i
  own : ∀ a, (a ∈ A ∨ ∃ i, a ∈ fp' i) → (∃ i, a ∈ fp i) ∨ H a = none

theorem Ext.refl (F H : Hp) (fp : Nat → List Addr) : Ext F H fp F H fp [] :=
  ⟨fun _ _ h _ => h, Same.refl F, fun _ _ h => .inl h, fun a h => by
    rcases h with h | h
    · cases h
    · exact .inl h⟩
theorem Ext.trans {F H F1 H1 F2 H2 : Hp} {fp fp1 fp2 : Nat → List Addr} {A B : List Addr} (x : Ext F H fp F1 H1 fp1 A) (y : Ext F1 H1 fp1 F2 H2 fp2 B) : Ext F H fp F2 H2 fp2 B := by
  have back : ∀ a, H1 a = none → (∃ i, a ∈ fp i) ∨ H a = none := fun a h => by
    cases q : H a with
    | none => exact .inr rfl
    | some o =>
      by_cases c : ∃ i, a ∈ fp i
      · exact .inl c
      · have := x.keep a o q fun i z => c ⟨i, z⟩
        rw [h] at this; cases this
  refine ⟨fun a o h n => y.keep a o (x.keep a o h n) fun i z => ?_, x.fsub.trans y.fsub, fun a o h => ?_, fun a h => ?_⟩
  · rcases x.own a (.inr ⟨i, z⟩) with ⟨j, q⟩ | q
    · exact n j q
    · rw [h] at q; cases q
  · rcases y.fnew a o h with q | q | q | ⟨i, q⟩
    · exact x.fnew a o q
    · rcases back a q with z | z
      · exact .inr (.inr (.inr z))
      · exact .inr (.inl z)
    · exact .inr (.inr (.inl q))
    · rcases x.own a (.inr ⟨i, q⟩) with z | z
      · exact .inr (.inr (.inr z))
      · exact .inr (.inl z)
  · rcases y.own a h with ⟨i, q⟩ | q
    · exact x.own a (.inr ⟨i, q⟩)
    · exact back a q
theorem Ext.more {F H F' H' : Hp} {fp fp' : Nat → List Addr} {A B : List Addr} (x : Ext F H fp F' H' fp' A) (h : ∀ a, a ∈ B → a ∈ A ∨ (∃ i, a ∈ fp i) ∨ H a = none) : Ext F H fp F' H' fp' B :=
  ⟨x.keep, x.fsub, x.fnew, fun a q => by
    rcases q with q | q
    · rcases h a q with z | z
      · exact x.own a (.inl z)
      · exact z
    · exact x.own a (.inr q)⟩

theorem Ext.nil {F H F' H' : Hp} {fp fp' : Nat → List Addr} {A : List Addr} (x : Ext F H fp F' H' fp' A) : Ext F H fp F' H' fp' [] := x.more fun a q => by simp at q

/-- a made thing beside the slots -/
structure Tmp (K : Par) (F H : Hp) (fp : Nat → List Addr) (v : V) (t : T) (A : List Addr) : Prop where
  r : R K F H v t A
  dj : ∀ a, a ∈ A → ∀ i, a ∉ fp i
  ff : ∀ a, a ∈ A → F a = none

theorem Sim.tups {K : Par} {F H F' H' : Hp} {σ : St} {ρ : Rho} {fp fp' : Nat → List Addr} {A : List Addr} (s : Sim K F H σ ρ fp) (x : Ext F H fp F' H' fp' A) : TupSub H H' := fun a xs h =>
  x.keep a _ h fun i z => by
    obtain ⟨o, e, q⟩ := s.mt i a z
    rw [h] at e; cases e; cases q
/-- a made thing stays while the slots go on -/
theorem Tmp.on {K : Par} {F H F' H' : Hp} {σ σ' : St} {ρ ρ' : Rho} {fp fp' : Nat → List Addr} {A B : List Addr} {v : V} {t : T} (m : Tmp K F H fp v t B) (s : Sim K F H σ ρ fp) (x : Ext F H fp F' H' fp' A) (s' : Sim K F' H' σ' ρ' fp') :
    Tmp K F' H' fp' v t B ∧ ∀ a, a ∈ B → a ∉ A := by
  have st : ∀ a, a ∈ B → H' a = H a := fun a h => by
    obtain ⟨o, e, _⟩ := m.r.live a h
    rw [e]; exact x.keep a o e (m.dj a h)
  have no : ∀ a, a ∈ B → ¬ (a ∈ A ∨ ∃ i, a ∈ fp' i) := fun a h q => by
    rcases x.own a q with ⟨i, z⟩ | z
    · exact m.dj a h i z
    · obtain ⟨o, e, _⟩ := m.r.live a h
      rw [e] at z; cases z
  refine ⟨⟨m.r.frame x.fsub (s.tups x) st, fun a h i z => no a h (.inr ⟨i, z⟩), fun a h => ?_⟩, fun a h z => no a h (.inl z)⟩
  cases q : F' a with
  | none => rfl
  | some o =>
    obtain ⟨u, e, nt⟩ := m.r.live a h
    rcases x.fnew a o q with z | z | z | ⟨i, z⟩
    · rw [m.ff a h] at z; cases z
    · rw [e] at z; cases z
    · have := s'.sub a o q
      rw [st a h, e] at this
      cases this
      rw [nt] at z; cases z
    · exact absurd z (m.dj a h i)
theorem Tmp.frz {K : Par} {F H : Hp} {fp : Nat → List Addr} {v : V} {x : D} (h : Fz K F v x) : Tmp K F H fp v (.d x) [] := ⟨.d h, fun _ q => absurd q (by simp), fun _ q => absurd q (by simp)⟩

/-! ### outcomes -/
inductive Out (α : Type) where
  | ok (a : α) (ρ : Rho)
  | ex (c : Str) (f : Option (Str × T)) (ρ : Rho)
  | bad
  deriving Inhabited
def Out.bind {α β : Type} (o : Out α) (f : α → Rho → Out β) : Out β := match o with
  | .ok a ρ => f a ρ
  | .ex c u ρ => .ex c u ρ
  | .bad => .bad
abbrev G (α : Type) := Rho → Out α

/-- what is wanted behind an expression: of each value that bears the tree -/
def Post (K : Par) (F H : Hp) (σ : St) (fp : Nat → List Addr) (Q : VK) (t : T) (ρ' : Rho) : Prop :=
  ∀ v F' H' fp' A, Sim K F' H' σ ρ' fp' → Tmp K F' H' fp' v t A → Ext F H fp F' H' fp' A → Q v H'
/-- .. that looks at it alone -/
def PostP (K : Par) (F H : Hp) (σ : St) (fp : Nat → List Addr) (Q : VK) (t : T) (ρ' : Rho) : Prop :=
  ∀ v F' H' fp' A, Sim K F' H' σ ρ' fp' → R K F' H' v t A → Ext F H fp F' H' fp' [] → Q v H'
/-- an exception's own dict -/
def XDict (K : Par) (F H : Hp) (fp : Nat → List Addr) (d : Option Addr) (f : Option (Str × T)) (A : List Addr) : Prop :=
  match f with
  | none => d = none ∧ A = []
  | some (x, t) => ∃ dd v B, d = some dd ∧ H dd = some (.xd [(x, v)]) ∧ Tmp K F H fp v t B ∧ A = dd :: B ∧ dd ∉ B ∧ (∀ i, dd ∉ fp i) ∧ F dd = none
/-- what is wanted of exceptions: of the slots, class, own dict, heap -/
abbrev XW := St → XK
def PostX (K : Par) (W : XW) (F H : Hp) (σ : St) (fp : Nat → List Addr) (c : Str) (f : Option (Str × T)) (ρ' : Rho) : Prop :=
  ∀ d F' H' fp' A, Sim K F' H' σ ρ' fp' → XDict K F' H' fp' d f A → Ext F H fp F' H' fp' A → W σ (.ref (K.cls c)) d H'
def OutR {α : Type} (K : Par) (W : XW) (F H : Hp) (σ : St) (fp : Nat → List Addr) (P : α → Rho → Prop) : Out α → Prop
  | .ok t ρ' => P t ρ'
  | .ex c f ρ' => PostX K W F H σ fp c f ρ'
  | .bad => False
abbrev OutG (K : Par) (W : XW) (F H : Hp) (σ : St) (fp : Nat → List Addr) (Q : VK) : Out T → Prop := OutR K W F H σ fp (Post K F H σ fp Q)
abbrev OutP (K : Par) (W : XW) (F H : Hp) (σ : St) (fp : Nat → List Addr) (Q : VK) : Out T → Prop := OutR K W F H σ fp (PostP K F H σ fp Q)
/-- the reading of an expression by its function on trees -/
def tG (K : Par) (W : XW) (g : G T) : TE := fun σ H Q => ∃ ρ F fp, Sim K F H σ ρ fp ∧ OutG K W F H σ fp Q (g ρ)
def tP (K : Par) (W : XW) (g : G T) : TE := fun σ H Q => ∃ ρ F fp, Sim K F H σ ρ fp ∧ OutP K W F H σ fp Q (g ρ)

section
variable {K : Par} {W : XW} {F H F1 H1 : Hp} {σ : St} {fp fp1 : Nat → List Addr} {Q : VK} {A : List Addr} {α β : Type}
theorem PostX.shift {c : Str} {f : Option (Str × T)} {ρ' : Rho} (h : PostX K W F H σ fp c f ρ') (x : Ext F H fp F1 H1 fp1 A) : PostX K W F1 H1 σ fp1 c f ρ' :=
  fun d F' H' fp' B s m y => h d F' H' fp' B s m (x.trans y)
theorem OutR.bind {P : β → Rho → Prop} {o : Out α} {f : α → Rho → Out β} (h : OutR K W F H σ fp P (o.bind f)) : OutR K W F H σ fp (fun a ρ => OutR K W F H σ fp P (f a ρ)) o := by
  cases o with
  | ok a ρ => exact h
  | ex c u ρ => exact h
  | bad => exact h
theorem OutR.imp {P P' : α → Rho → Prop} {o : Out α} (h : OutR K W F H σ fp P o) (x : Ext F H fp F1 H1 fp1 A) (i : ∀ a ρ, o = .ok a ρ → P a ρ → P' a ρ) : OutR K W F1 H1 σ fp1 P' o := by
  cases o with
  | ok a ρ => exact i a ρ rfl h
  | ex c u ρ => exact PostX.shift h x
  | bad => exact h
end
theorem tG_of_tP {K : Par} {W : XW} {g : G T} {σ : St} {H : Hp} {Q : VK} (h : tP K W g σ H Q) : tG K W g σ H Q :=
  let ⟨ρ, F, fp, s, o⟩ := h
  ⟨ρ, F, fp, s, o.imp (Ext.refl F H fp) fun _ _ _ q v F' H' fp' A s m x => q v F' H' fp' A s m.r (x.more fun a q => by simp at q)⟩

theorem _root_.L2.PE.imp {X : Cx} {e : Expr} {t t' : TE} (h : PE X e t) (i : ∀ σ H Q, t' σ H Q → t σ H Q) : PE X e t' := ⟨fun pins s σ H Q I q => h.run pins s σ H Q I (i σ H Q q)⟩
theorem _root_.L2.PT.imp {X : Cx} {e : Expr} {t t' : TT} (h : PT X e t) (i : ∀ σ H Q, t' σ H Q → t σ H Q) : PT X e t' := ⟨fun pins s σ H Q I q => h.run pins s σ H Q I (i σ H Q q)⟩
theorem _root_.L2.PA.imp {X : Cx} {es : List Expr} {t t' : TA} (h : PA X es t) (i : ∀ σ H Q, t' σ H Q → t σ H Q) : PA X es t' := ⟨fun pos pins s σ H Q I q => h.run pos pins s σ H Q I (i σ H Q q)⟩
theorem _root_.L2.PS.imp {X : Cx} {st : Stmt} {t t' : TS} (h : PS X st t) (i : ∀ D σ H, t' D σ H → t D σ H) : PS X st t' := ⟨fun pins s σ H D I q => h.run pins s σ H D I (i D σ H q)⟩
theorem _root_.L2.PSs.imp {X : Cx} {st : List Stmt} {t t' : TS} (h : PSs X st t) (i : ∀ D σ H, t' D σ H → t D σ H) : PSs X st t' := ⟨fun pins s σ H D I q => h.run pins s σ H D I (i D σ H q)⟩
end Hu
set_option Elab.async false
set_option linter.all false
set_option maxRecDepth 100000
/-! HuB: operands, evaluated from the left. -/
namespace Hu
open PySem L2
/-- an operand: a name looked at late, a constant, a value of its own, something looked at -/
inductive Opd where
  | nm (i : Nat)
  | con (v : V) (x : D)
  | val (g : G T)
  | pk (g : G T)
  | iv (g : G T)
def getS (ρ : Rho) (i : Nat) : Option T := (ρ[i]?).join
def Opd.run : Opd → Rho → Out (Option T)
  | .nm i, ρ => match getS ρ i with
    | some _ => .ok none ρ
    | none => .bad
  | .con _ x, ρ => .ok (some (.d x)) ρ
  | .val g, ρ => (g ρ).bind fun t ρ' => .ok (some t) ρ'
  | .pk g, ρ => (g ρ).bind fun t ρ' => .ok (some t) ρ'
  | .iv g, ρ => (g ρ).bind fun t ρ' => match t with
    | .d (.int i) => .ok (some (.d (.int i))) ρ'
    | _ => .bad
def Opd.still : Opd → Bool
  | .nm _ => true
  | .con _ _ => true
  | _ => false
def isD : Option T → Bool
  | some (.d _) => true
  | _ => false
def Opd.safe : Opd → Option T → List Opd → Bool
  | .pk _, x, os => isD x || os.all Opd.still
  | _, _, _ => true
def runs : List Opd → Rho → Out (List (Option T))
  | [], ρ => .ok [] ρ
  | o :: os, ρ => (o.run ρ).bind fun x ρ1 => if o.safe x os = true then (runs os ρ1).bind fun xs ρ2 => .ok (x :: xs) ρ2 else .bad
def fins : List Opd → List (Option T) → Rho → Option (List T)
  | .nm i :: os, _ :: xs, ρ => match getS ρ i, fins os xs ρ with
    | some t, some ts => some (t :: ts)
    | _, _ => none
  | _ :: os, some t :: xs, ρ => match fins os xs ρ with
    | some ts => some (t :: ts)
    | none => none
  | _, _, _ => some []
/-- operands, then what is done with their trees -/
def gOs {α : Type} (os : List Opd) (k : List T → G α) : G α := fun ρ => (runs os ρ).bind fun xs ρ' => match fins os xs ρ' with
  | some ts => k ts ρ'
  | none => .bad

def tO (K : Par) (W : XW) : Opd → TE
  | .nm i => tVar i
  | .con v _ => tC v
  | .val g => tG K W g
  | .pk g => tP K W g
  | .iv g => fun σ H Q => tG K W g σ H fun x H1 => ∃ i, x = .int i ∧ Q x H1
def tOs (K : Par) (W : XW) : List Opd → TA
  | [] => tNil
  | o :: os => tCons (tO K W o) (tOs K W os)

/-- the operands' values against what was found; B: cells of what was made -/
inductive ArgsR (K : Par) (F H : Hp) (σ : St) (fp : Nat → List Addr) : List Opd → List V → List (Option T) → List Addr → Prop
  | nil : ArgsR K F H σ fp [] [] [] []
  | nm {i os v vs xs B} : σ[i]? = some (some v) → ArgsR K F H σ fp os vs xs B → ArgsR K F H σ fp (.nm i :: os) (v :: vs) (none :: xs) B
  | con {v x os vs xs B} : Fz K F v x → ArgsR K F H σ fp os vs xs B → ArgsR K F H σ fp (.con v x :: os) (v :: vs) (some (.d x) :: xs) B
  | val {g t A os v vs xs B} : Tmp K F H fp v t A → (∀ a, a ∈ A → a ∉ B) → ArgsR K F H σ fp os vs xs B → ArgsR K F H σ fp (.val g :: os) (v :: vs) (some t :: xs) (A ++ B)
  | pk {g t A os v vs xs B} : R K F H v t A → ArgsR K F H σ fp os vs xs B → ArgsR K F H σ fp (.pk g :: os) (v :: vs) (some t :: xs) B
  | iv {g i os vs xs B} : ArgsR K F H σ fp os vs xs B → ArgsR K F H σ fp (.iv g :: os) (.int i :: vs) (some (.d (.int i)) :: xs) B

/-- constants are of scalars -/
def conOk : V → D → Bool
  | .non, .none => true
  | .bl a, .bool b => a == b
  | .int i, .int j => i == j
  | .str x, .str y => decide (x = y)
  | _, _ => false
theorem conOk.fz {K : Par} {F : Hp} : ∀ {v : V} {x : D}, conOk v x = true → Fz K F v x
  | .non, .none, _ => .non
  | .bl a, .bool b, h => by
    have : a = b := by simpa [conOk] using h
    subst this; exact .bl a
  | .int i, .int j, h => by
    have : i = j := by simpa [conOk] using h
    subst this; exact .int i
  | .str x, .str y, h => by
    have : x = y := by simpa [conOk] using h
    subst this; exact .str x
def Opd.fine : Opd → Bool
  | .con v x => conOk v x
  | _ => true

theorem getS_some {ρ : Rho} {i : Nat} {t : T} (h : getS ρ i = some t) : ρ[i]? = some (some t) := by
  unfold getS at h
  cases q : ρ[i]? with
  | none => rw [q] at h; simp at h
  | some u => rw [q] at h; simp at h; rw [h]

theorem runs_nm {i : Nat} {os : List Opd} {ρ : Rho} {t : T} (h : getS ρ i = some t) : runs (.nm i :: os) ρ = (runs os ρ).bind fun xs ρ2 => .ok (none :: xs) ρ2 := by
  simp [runs, Opd.run, h, Out.bind, Opd.safe]
theorem runs_nm0 {i : Nat} {os : List Opd} {ρ : Rho} (h : getS ρ i = none) : runs (.nm i :: os) ρ = .bad := by
  simp [runs, Opd.run, h, Out.bind]
theorem runs_con {v : V} {x : D} {os : List Opd} {ρ : Rho} : runs (.con v x :: os) ρ = (runs os ρ).bind fun xs ρ2 => .ok (some (.d x) :: xs) ρ2 := by
  simp [runs, Opd.run, Out.bind, Opd.safe]
theorem runs_val {g : G T} {os : List Opd} {ρ : Rho} : runs (.val g :: os) ρ = (g ρ).bind fun t ρ1 => (runs os ρ1).bind fun xs ρ2 => .ok (some t :: xs) ρ2 := by
  simp only [runs, Opd.run, Opd.safe, if_true]
  cases g ρ <;> rfl
theorem runs_pk {g : G T} {os : List Opd} {ρ : Rho} : runs (.pk g :: os) ρ = (g ρ).bind fun t ρ1 => if Opd.safe (.pk g) (some t) os = true then (runs os ρ1).bind fun xs ρ2 => .ok (some t :: xs) ρ2 else .bad := by
  simp only [runs, Opd.run]
  cases g ρ <;> rfl
theorem runs_iv {g : G T} {os : List Opd} {ρ : Rho} : runs (.iv g :: os) ρ = (g ρ).bind fun t ρ1 => match t with
    | .d (.int i) => (runs os ρ1).bind fun xs ρ2 => .ok (some (.d (.int i)) :: xs) ρ2
    | _ => .bad := by
  simp only [runs, Opd.run]
  cases g ρ with
  | ok t ρ' =>
    cases t with
    | d x => cases x <;> rfl
    | _ => rfl
  | _ => rfl

section
variable {K : Par} {W : XW} {σ : St} {F0 H0 : Hp} {fp0 : Nat → List Addr}
theorem still_ok {F H : Hp} {fp : Nat → List Addr} {ρ : Rho} (s : Sim K F H σ ρ fp) : ∀ (os : List Opd), os.all Opd.still = true → os.all Opd.fine = true → ∀ {P : List (Option T) → Rho → Prop}, OutR K W F0 H0 σ fp0 P (runs os ρ) →
    ∃ vs xs, ArgsR K F H σ fp os vs xs [] ∧ P xs ρ ∧ ∀ Q : List V → Hp → Prop, Q vs H → tOs K W os σ H Q
  | [], _, _, P, o => ⟨[], [], .nil, o, fun Q q => q⟩
  | .nm i :: os, h, f, P, o => by
    simp only [List.all_cons, Bool.and_eq_true] at h f
    cases q : getS ρ i with
    | none => rw [runs_nm0 q] at o; exact o.elim
    | some t =>
      rw [runs_nm q] at o
      obtain ⟨v, hv, _⟩ := s.sl i t (getS_some q)
      obtain ⟨vs, xs, ha, p, k⟩ := still_ok s os h.2 f.2 o.bind
      exact ⟨v :: vs, none :: xs, .nm hv ha, p, fun Q z => ⟨v, hv, k (fun ws H' => Q (v :: ws) H') z⟩⟩
  | .con v x :: os, h, f, P, o => by
    simp only [List.all_cons, Bool.and_eq_true] at h f
    rw [runs_con] at o
    obtain ⟨vs, xs, ha, p, k⟩ := still_ok s os h.2 f.2 o.bind
    exact ⟨v :: vs, some (.d x) :: xs, .con (conOk.fz f.1) ha, p, fun Q z => k (fun ws H' => Q (v :: ws) H') z⟩
  | .val g :: os, h, _, P, o => by simp [Opd.still] at h
  | .pk g :: os, h, _, P, o => by simp [Opd.still] at h
  | .iv g :: os, h, _, P, o => by simp [Opd.still] at h
/-- THE OPERANDS: they run from the left -/
theorem runs_ok : ∀ (os : List Opd), os.all Opd.fine = true → ∀ {F H : Hp} {fp : Nat → List Addr} {ρ : Rho} {A0 : List Addr} {P : List (Option T) → Rho → Prop} {Q : List V → Hp → Prop}, Ext F0 H0 fp0 F H fp A0 → Sim K F H σ ρ fp → OutR K W F0 H0 σ fp0 P (runs os ρ) →
    (∀ vs xs ρ' F' H' fp' B, Sim K F' H' σ ρ' fp' → Ext F H fp F' H' fp' B → ArgsR K F' H' σ fp' os vs xs B → P xs ρ' → Q vs H') → tOs K W os σ H Q
  | [], _, F, H, fp, ρ, A0, P, Q, x0, s, o, k => k [] [] ρ F H fp [] s (Ext.refl F H fp) .nil o
  | .nm i :: os, f, F, H, fp, ρ, A0, P, Q, x0, s, o, k => by
    simp only [List.all_cons, Bool.and_eq_true] at f
    cases q : getS ρ i with
    | none => rw [runs_nm0 q] at o; exact o.elim
    | some t =>
      rw [runs_nm q] at o
      obtain ⟨v, hv, _⟩ := s.sl i t (getS_some q)
      exact ⟨v, hv, runs_ok os f.2 x0 s o.bind fun vs xs ρ' F' H' fp' B s' x ha p => k (v :: vs) (none :: xs) ρ' F' H' fp' B s' x (.nm hv ha) p⟩
  | .con v y :: os, f, F, H, fp, ρ, A0, P, Q, x0, s, o, k => by
    simp only [List.all_cons, Bool.and_eq_true] at f
    rw [runs_con] at o
    exact runs_ok (Q := fun ws H' => Q (v :: ws) H') os f.2 x0 s o.bind fun vs xs ρ' F' H' fp' B s' x ha p => k (v :: vs) (some (.d y) :: xs) ρ' F' H' fp' B s' x (.con (conOk.fz f.1) ha) p
  | .val g :: os, f, F, H, fp, ρ, A0, P, Q, x0, s, o, k => by
    simp only [List.all_cons, Bool.and_eq_true] at f
    rw [runs_val] at o
    refine ⟨ρ, F, fp, s, o.bind.imp x0 fun t ρ1 _ o v F1 H1 fp1 A s1 m x1 => ?_⟩
    refine runs_ok (Q := fun ws H' => Q (v :: ws) H') os f.2 (x0.trans x1) s1 o.bind fun vs xs ρ' F' H' fp' B s' x ha p => ?_
    obtain ⟨m', nb⟩ := m.on s1 x s'
    refine k (v :: vs) (some t :: xs) ρ' F' H' fp' (A ++ B) s' ((x1.trans x).more fun a h => ?_) (.val m' nb ha) p
    (rcases List.mem_append.mp h with h | h)
    · exact .inr (x1.own a (.inl h))
    · exact .inl h
  | .pk g :: os, f, F, H, fp, ρ, A0, P, Q, x0, s, o, k => by
    simp only [List.all_cons, Bool.and_eq_true] at f
    rw [runs_pk] at o
    refine ⟨ρ, F, fp, s, o.bind.imp x0 fun t ρ1 _ o v F1 H1 fp1 A s1 m x1 => ?_⟩
    by_cases c : Opd.safe (.pk g) (some t) os = true
    · rw [if_pos c] at o
      by_cases c2 : os.all Opd.still = true
      · obtain ⟨vs, xs, ha, p, z⟩ := still_ok s1 os c2 f.2 o.bind
        exact z (fun ws H' => Q (v :: ws) H') (k (v :: vs) (some t :: xs) ρ1 F1 H1 fp1 [] s1 x1 (.pk m ha) p)
      · simp only [Opd.safe, Bool.or_eq_true, c2, or_false] at c
        cases t with
        | d y =>
          cases m with
          | d hy =>
          refine runs_ok (Q := fun ws H' => Q (v :: ws) H') os f.2 (x0.trans x1) s1 o.bind fun vs xs ρ' F' H' fp' B s' x ha p => ?_
          exact k (v :: vs) (some (.d y) :: xs) ρ' F' H' fp' B s' (x1.trans x) (.pk (.d (hy.mono x.fsub)) ha) p
        | _ => simp [isD] at c
    · rw [if_neg c] at o; exact o.elim
  | .iv g :: os, f, F, H, fp, ρ, A0, P, Q, x0, s, o, k => by
    simp only [List.all_cons, Bool.and_eq_true] at f
    rw [runs_iv] at o
    refine ⟨ρ, F, fp, s, o.bind.imp x0 fun t ρ1 _ o v F1 H1 fp1 A s1 m x1 => ?_⟩
    cases t with
    | d y =>
      cases y with
      | int i =>
        cases m.r with
        | d z =>
          cases z
          refine ⟨i, rfl, runs_ok (Q := fun ws H' => Q (.int i :: ws) H') os f.2 (x0.trans x1) s1 o.bind fun vs xs ρ' F' H' fp' B s' x ha p => ?_⟩
          exact k (.int i :: vs) (some (.d (.int i)) :: xs) ρ' F' H' fp' B s' (x1.trans x) (.iv ha) p
      | _ => exact o.elim
    | _ => exact o.elim
/-- each operand's tree lies at its value -/
theorem ArgsR.all {F H : Hp} {fp : Nat → List Addr} {ρ : Rho} (s : Sim K F H σ ρ fp) : ∀ {os : List Opd} {vs : List V} {xs : List (Option T)} {B : List Addr} {ts : List T}, ArgsR K F H σ fp os vs xs B → fins os xs ρ = some ts → Paired (fun v t => ∃ A, R K F H v t A) vs ts
  | _, _, _, _, ts, .nil, h => by
    simp only [fins] at h
    cases h; exact .nil
  | _, _, _, _, ts, .nm (i := i) (os := os) (xs := xs) hv ha, h => by
    simp only [fins] at h
    cases q : getS ρ i with
    | none => rw [q] at h; simp at h
    | some t =>
      cases q2 : fins os xs ρ with
      | none => rw [q, q2] at h; simp at h
      | some us =>
        rw [q, q2] at h; simp at h; subst h
        obtain ⟨v', hv', r⟩ := s.sl i t (getS_some q)
        rw [hv] at hv'; cases hv'
        exact .cons ⟨_, r⟩ (ArgsR.all s ha q2)
  | _, _, _, _, ts, .con (os := os) (xs := xs) hv ha, h => by
    simp only [fins] at h
    cases q2 : fins os xs ρ with
    | none => rw [q2] at h; simp at h
    | some us => rw [q2] at h; simp at h; subst h; exact .cons ⟨_, .d hv⟩ (ArgsR.all s ha q2)
  | _, _, _, _, ts, .val (os := os) (xs := xs) hv _ ha, h => by
    simp only [fins] at h
    cases q2 : fins os xs ρ with
    | none => rw [q2] at h; simp at h
    | some us => rw [q2] at h; simp at h; subst h; exact .cons ⟨_, hv.r⟩ (ArgsR.all s ha q2)
  | _, _, _, _, ts, .pk (os := os) (xs := xs) hv ha, h => by
    simp only [fins] at h
    cases q2 : fins os xs ρ with
    | none => rw [q2] at h; simp at h
    | some us => rw [q2] at h; simp at h; subst h; exact .cons ⟨_, hv⟩ (ArgsR.all s ha q2)
  | _, _, _, _, ts, .iv (os := os) (xs := xs) ha, h => by
    simp only [fins] at h
    cases q2 : fins os xs ρ with
    | none => rw [q2] at h; simp at h
    | some us => rw [q2] at h; simp at h; subst h; exact .cons ⟨_, .d (.int _)⟩ (ArgsR.all s ha q2)
theorem tO_mono : ∀ {o : Opd} {σ : St} {H : Hp} {Q Q' : VK}, tO K W o σ H Q → (∀ v H', Q v H' → Q' v H') → tO K W o σ H Q'
  | .nm i, σ, H, Q, Q', h, i' => let ⟨v, e, q⟩ := h; ⟨v, e, i' v H q⟩
  | .con v x, σ, H, Q, Q', h, i' => i' v H h
  | .val g, σ, H, Q, Q', h, i' => by
    obtain ⟨ρ, F, fp, s, o⟩ := h
    exact ⟨ρ, F, fp, s, o.imp (Ext.refl F H fp) fun t ρ' _ p v F' H' fp' A s' m x => i' v H' (p v F' H' fp' A s' m x)⟩
  | .pk g, σ, H, Q, Q', h, i' => by
    obtain ⟨ρ, F, fp, s, o⟩ := h
    exact ⟨ρ, F, fp, s, o.imp (Ext.refl F H fp) fun t ρ' _ p v F' H' fp' A s' m x => i' v H' (p v F' H' fp' A s' m x)⟩
  | .iv g, σ, H, Q, Q', h, i' => by
    obtain ⟨ρ, F, fp, s, o⟩ := h
    exact ⟨ρ, F, fp, s, o.imp (Ext.refl F H fp) fun t ρ' _ p v F' H' fp' A s' m x => let ⟨i, e, q⟩ := p v F' H' fp' A s' m x; ⟨i, e, i' v H' q⟩⟩
end
end Hu
set_option Elab.async false
set_option linter.all false
set_option maxRecDepth 100000
/-! HuC: what is made without touching anything; operations by their values' trees. -/
namespace Hu
open PySem L2

/-- Q of each value that bears t, the heap grown by new objects alone -/
def Mk (K : Par) (F H : Hp) (t : T) (Q : VK) : Prop :=
  ∀ v F' H' A, R K F' H' v t A → Same H H' → Same F F' → Same F' H' → (∀ a o, F' a = some o → F a = some o ∨ H a = none ∨ isT o = true) → (∀ a, a ∈ A → H a = none ∧ F' a = none) → Q v H'

theorem tupSub_of {H H' : Hp} (e : Same H H') : TupSub H H' := fun a xs h => e a _ h
theorem Sim.grow {K : Par} {F H F' H' : Hp} {σ : St} {ρ : Rho} {fp : Nat → List Addr} (s : Sim K F H σ ρ fp) (h1 : Same H H') (h2 : Same F F') (h3 : Same F' H') (h4 : ∀ a o, F' a = some o → F a = some o ∨ H a = none ∨ isT o = true) : Sim K F' H' σ ρ fp := by
  have st : ∀ i a, a ∈ fp i → H' a = H a := fun i a h => by
    obtain ⟨o, e, _⟩ := s.mt i a h
    rw [e]; exact h1 a o e
  refine ⟨s.len, fun i t h => ?_, s.dj, fun i a h => ?_, fun i a h => ?_, h3⟩
  · obtain ⟨v, e, r⟩ := s.sl i t h
    exact ⟨v, e, r.frame h2 (tupSub_of h1) (st i)⟩
  · cases q : F' a with
    | none => rfl
    | some o =>
      obtain ⟨u, e, nt⟩ := s.mt i a h
      rcases h4 a o q with z | z | z
      · rw [s.ff i a h] at z; cases z
      · rw [e] at z; cases z
      · have := h3 a o q
        rw [st i a h, e] at this
        cases this; rw [nt] at z; cases z
  · obtain ⟨o, e, nt⟩ := s.mt i a h
    exact ⟨o, h1 a o e, nt⟩
theorem Ext.grow {F H F' H' : Hp} {fp : Nat → List Addr} {A : List Addr} (h1 : Same H H') (h2 : Same F F') (h4 : ∀ a o, F' a = some o → F a = some o ∨ H a = none ∨ isT o = true) (h5 : ∀ a, a ∈ A → H a = none) : Ext F H fp F' H' fp A :=
  ⟨fun a o h _ => h1 a o h, h2, fun a o h => by
    rcases h4 a o h with z | z | z
    · exact .inl z
    · exact .inr (.inl z)
    · exact .inr (.inr (.inl z)), fun a h => by
    rcases h with h | h
    · exact .inr (h5 a h)
    · exact .inl h⟩
theorem Post.mk {K : Par} {F H F0 H0 : Hp} {σ : St} {ρ : Rho} {fp fp0 : Nat → List Addr} {B : List Addr} {t : T} {Q : VK} (s : Sim K F H σ ρ fp) (x : Ext F0 H0 fp0 F H fp B) (p : Post K F0 H0 σ fp0 Q t ρ) : Mk K F H t Q := fun v F' H' A r h1 h2 h3 h4 h5 =>
  p v F' H' fp A (s.grow h1 h2 h3 h4) ⟨r, fun a h i z => (by
    obtain ⟨o, e, _⟩ := s.mt i a z
    rw [(h5 a h).1] at e
    cases e), fun a h => (h5 a h).2⟩ (x.trans (Ext.grow h1 h2 h4 fun a h => (h5 a h).1))

/-- a tree made out of trees, nothing touched -/
def kP (kk : List T → Option T) : List T → G T := fun ts ρ => match kk ts with
  | some t => .ok t ρ
  | none => .bad
/-- r asks no more than that kk tells what comes -/
def PureN (K : Par) (r : List V → Hp → VK → Prop) (kk : List T → Option T) : Prop :=
  ∀ vs ts F H t, Same F H → Paired (fun v t => ∃ A, R K F H v t A) vs ts → kk ts = some t → ∀ Q, Mk K F H t Q → r vs H Q

theorem os_pure {K : Par} {W : XW} {os : List Opd} {kk : List T → Option T} {r : List V → Hp → VK → Prop} (f : os.all Opd.fine = true) (h : PureN K r kk) {σ : St} {H : Hp} {Q : VK} (g : tG K W (gOs os (kP kk)) σ H Q) : tOs K W os σ H fun vs H1 => r vs H1 Q := by
  obtain ⟨ρ, F, fp, s, o⟩ := g
  refine runs_ok os f (Ext.refl F H fp) s o.bind fun vs xs ρ' F' H' fp' B s' x ha p => ?_
  cases q : fins os xs ρ' with
  | none => rw [q] at p; exact p.elim
  | some ts =>
    rw [q] at p
    unfold kP at p
    simp only at p
    cases q2 : kk ts with
    | none => rw [q2] at p; exact p.elim
    | some t =>
      rw [q2] at p
      exact h vs ts F' H' t s'.sub (ha.all s' q) q2 Q (Post.mk s' x p)

/-! ### what is made -/
section
variable {K : Par} {F H : Hp} {Q : VK}
theorem mk_scal {v : V} {x : D} (h : Mk K F H (.d x) Q) (e : Same F H) (z : Fz K F v x) : Q v H :=
  h v F H [] (.d z) (Same.refl H) (Same.refl F) e (fun _ _ q => .inl q) fun _ q => absurd q (by simp)
theorem same_upd {H : Hp} {p : Addr} {o : HO} (n : H p = none) : Same H (upd H p o) := fun a u h => by
  rw [upd_ne (ne_of_none h n)]; exact h
theorem RA.dats {K : Par} {F H : Hp} : ∀ {vs : List V} {ds : List D}, FzA K F vs ds → RA K F H vs (ds.map T.d) []
  | _, _, .nil => .nil
  | _, _, .cons h1 h2 => RA.cons (A := []) (B := []) (.d h1) (RA.dats h2) fun _ q => absurd q (by simp)
/-- a new list of frozen things -/
theorem mk_list {vs : List V} {ds : List D} (h : Mk K F H (.lst (ds.map T.d)) Q) (e : Same F H) (z : FzA K F vs ds) : ∀ p, H p = none → Q (.ref p) (upd H p (.lst vs)) := fun p n => by
  have fn : F p = none := e.free n
  refine h _ F _ [p] (.lst upd_same (RA.dats z) (by simp)) (same_upd n) (Same.refl F) (e.trans (same_upd n)) (fun _ _ q => .inl q) fun a q => ?_
  simp at q; subst q; exact ⟨n, fn⟩
/-- a new tuple of frozen things -/
theorem mk_tup {vs : List V} {ds : List D} (h : Mk K F H (.d (.tuple ds)) Q) (e : Same F H) (z : FzA K F vs ds) : ∀ p, H p = none → Q (.ref p) (upd H p (.tup vs)) := fun p n => by
  have fn : F p = none := e.free n
  refine h _ (upd F p (.tup vs)) _ [] (.d (.tup upd_same (z.mono (same_upd fn)))) (same_upd n) (same_upd fn) (fun a o q => ?_) (fun a o q => ?_) fun _ q => absurd q (by simp)
  · by_cases c : a = p
    · subst c; rw [upd_same] at q ⊢; exact q
    · rw [upd_ne c] at q ⊢; exact e a o q
  · by_cases c : a = p
    · subst c; exact .inr (.inl n)
    · rw [upd_ne c] at q; exact .inl q
end

/-! ### reading trees -/
/-- the items of a list, all frozen -/
def asDs : List T → Option (List D)
  | [] => some []
  | .d x :: ts => (asDs ts).map (x :: ·)
  | _ :: _ => none
theorem asDs_map (ds : List D) : asDs (ds.map T.d) = some ds := by
  induction ds with
  | nil => rfl
  | cons x r ih => simp [asDs, ih]
theorem asDs_some : ∀ {ts : List T} {ds : List D}, asDs ts = some ds → ts = ds.map T.d
  | [], ds, h => by simp [asDs] at h; subst h; rfl
  | .d x :: ts, ds, h => by
    simp only [asDs, Option.map_eq_some_iff] at h
    obtain ⟨r, h1, rfl⟩ := h
    simp [asDs_some h1]
theorem RA.fz {K : Par} {F H : Hp} : ∀ {vs : List V} {ds : List D} {A : List Addr}, RA K F H vs (ds.map T.d) A → FzA K F vs ds
  | _, [], _, .nil => .nil
  | _, _ :: _, _, .cons (.d h) r _ => .cons h (RA.fz r)
/-- a list of frozen things, owned or frozen -/
def listOf : T → Option (List D)
  | .d (.list ds) => some ds
  | .lst ts => asDs ts
  | _ => none
def tupOf : T → Option (List D)
  | .d (.tuple ds) => some ds
  | .tup ts => asDs ts
  | _ => none
theorem listOf_at {K : Par} {F H : Hp} (e : Same F H) {v : V} {t : T} {A : List Addr} {ds : List D} (r : R K F H v t A) (h : listOf t = some ds) : ∃ a vs, v = .ref a ∧ H a = some (.lst vs) ∧ FzA K F vs ds := by
  unfold listOf at h
  split at h
  · cases h
    cases r with
    | d z =>
      cases z with
      | lst h1 h2 => exact ⟨_, _, rfl, e _ _ h1, h2⟩
  · have := asDs_some h
    subst this
    cases r with
    | lst h1 h2 _ => exact ⟨_, _, rfl, h1, h2.fz⟩
  · cases h
theorem tupOf_at {K : Par} {F H : Hp} (e : Same F H) {v : V} {t : T} {A : List Addr} {ds : List D} (r : R K F H v t A) (h : tupOf t = some ds) : ∃ a vs, v = .ref a ∧ SqT K.K H a vs ∧ FzA K F vs ds := by
  unfold tupOf at h
  split at h
  · cases h
    cases r with
    | d z =>
      cases z with
      | tup h1 h2 => exact ⟨_, _, rfl, .of (e _ _ h1), h2⟩
  · have := asDs_some h
    subst this
    cases r with
    | tup h1 h2 => exact ⟨_, _, rfl, .of h1, h2.fz⟩
  · cases h
/-- a list or a tuple of frozen things -/
def seqOf (t : T) : Option (List D) := (listOf t).or (tupOf t)
theorem seqOf_at {K : Par} {F H : Hp} (e : Same F H) {v : V} {t : T} {A : List Addr} {ds : List D} (r : R K F H v t A) (h : seqOf t = some ds) : ∃ a vs, v = .ref a ∧ (SqL K.K H a vs ∨ SqT K.K H a vs) ∧ FzA K F vs ds := by
  unfold seqOf at h
  cases q : listOf t with
  | some xs =>
    rw [q] at h; simp at h; subst h
    obtain ⟨a, vs, e1, e2, z⟩ := listOf_at e r q
    exact ⟨a, vs, e1, .inl (.of e2), z⟩
  | none =>
    rw [q] at h; simp at h
    obtain ⟨a, vs, e1, e2, z⟩ := tupOf_at e r h
    exact ⟨a, vs, e1, .inr e2, z⟩
mutual
/-- the data of a tree, nothing owned told apart -/
def datOf : T → Option D
  | .d x => some x
  | .lst ts => (datsOf ts).map .list
  | .tup ts => (datsOf ts).map .tuple
  | _ => none
def datsOf : List T → Option (List D)
  | [] => some []
  | t :: ts => match datOf t, datsOf ts with
    | some x, some xs => some (x :: xs)
    | _, _ => none
end
theorem datsOf_map (ds : List D) : datsOf (ds.map T.d) = some ds := by
  induction ds with
  | nil => rfl
  | cons x r ih => simp [datsOf, datOf, ih]
mutual
theorem datOf_dp {K : Par} {F H : Hp} (e : Same F H) : ∀ {v : V} {t : T} {A : List Addr} {x : D}, R K F H v t A → datOf t = some x → noDict x = true → Dp K.K H v x
  | _, _, _, x, .d h, q, n => by
    simp only [datOf, Option.some.injEq] at q; subst q; exact h.dp e n
  | _, _, _, x, .lst h1 h2 _, q, n => by
    simp only [datOf, Option.map_eq_some_iff] at q
    obtain ⟨xs, q1, rfl⟩ := q
    exact .lst (.of h1) (datsOf_dp e h2 q1 (by simpa [noDict] using n))
  | _, _, _, x, .tup h1 h2, q, n => by
    simp only [datOf, Option.map_eq_some_iff] at q
    obtain ⟨xs, q1, rfl⟩ := q
    exact .tup (.of h1) (datsOf_dp e h2 q1 (by simpa [noDict] using n))
  | _, _, _, x, .scr _, q, n => by simp [datOf] at q
  | _, _, _, x, .dK _ _ _ _, q, n => by simp [datOf] at q
  | _, _, _, x, .dT _ _ _ _, q, n => by simp [datOf] at q
  | _, _, _, x, .ins _ _ _ _ _ _, q, n => by simp [datOf] at q
theorem datsOf_dp {K : Par} {F H : Hp} (e : Same F H) : ∀ {vs : List V} {ts : List T} {A : List Addr} {xs : List D}, RA K F H vs ts A → datsOf ts = some xs → noDictA xs = true → DpAll K.K H vs xs
  | _, _, _, xs, .nil, q, n => by simp [datsOf] at q; subst q; exact .nil
  | _, _, _, xs, .cons (t := t) (ts := ts) h1 h2 _, q, n => by
    simp only [datsOf] at q
    cases q1 : datOf t with
    | none => rw [q1] at q; simp at q
    | some y =>
      cases q2 : datsOf ts with
      | none => rw [q1, q2] at q; simp at q
      | some ys =>
        rw [q1, q2] at q; simp at q; subst q
        simp only [noDictA, Bool.and_eq_true] at n
        exact .cons (datOf_dp e h1 q1 n.1) (datsOf_dp e h2 q2 n.2)
end
end Hu
set_option Elab.async false
set_option linter.all false
set_option maxRecDepth 100000
/-! HuD: the operations' laws by trees. -/
namespace Hu
open PySem L2

def rr2 (r : R2) : List V → Hp → VK → Prop := fun vs H Q => match vs with
  | [x, y] => r x y H Q
  | _ => False
def kk2 (k : T → T → Option T) : List T → Option T
  | [a, b] => k a b
  | _ => none
def rr1 (r : V → Hp → VK → Prop) : List V → Hp → VK → Prop := fun vs H Q => match vs with
  | [x] => r x H Q
  | _ => False
def kk1 (k : T → Option T) : List T → Option T
  | [a] => k a
  | _ => none
def Pure2 (K : Par) (r : R2) (k : T → T → Option T) : Prop :=
  ∀ x y tx ty Ax Ay F H t, Same F H → R K F H x tx Ax → R K F H y ty Ay → k tx ty = some t → ∀ Q, Mk K F H t Q → r x y H Q
def Pure1 (K : Par) (r : V → Hp → VK → Prop) (k : T → Option T) : Prop :=
  ∀ x tx Ax F H t, Same F H → R K F H x tx Ax → k tx = some t → ∀ Q, Mk K F H t Q → r x H Q
theorem pure2 {K : Par} {r : R2} {k : T → T → Option T} (h : Pure2 K r k) : PureN K (rr2 r) (kk2 k) := fun vs ts F H t e p q Q m => by
  cases p with
  | nil => simp [kk2] at q
  | cons r1 p =>
    cases p with
    | nil => simp [kk2] at q
    | cons r2 p =>
      cases p with
      | nil =>
        obtain ⟨A, r1⟩ := r1
        obtain ⟨B, r2⟩ := r2
        exact h _ _ _ _ A B F H t e r1 r2 q Q m
      | cons _ _ => simp [kk2] at q
theorem pure1 {K : Par} {r : V → Hp → VK → Prop} {k : T → Option T} (h : Pure1 K r k) : PureN K (rr1 r) (kk1 k) := fun vs ts F H t e p q Q m => by
  cases p with
  | nil => simp [kk1] at q
  | cons r1 p =>
    cases p with
    | nil =>
      obtain ⟨A, r1⟩ := r1
      exact h _ _ A F H t e r1 q Q m
    | cons _ _ => simp [kk1] at q
theorem Pure2.or {K : Par} {r r' : R2} {k k' : T → T → Option T} (h : Pure2 K r k) (h' : Pure2 K r' k') : Pure2 K (fun x y H Q => r x y H Q ∨ r' x y H Q) (fun a b => (k a b).or (k' a b)) := fun x y tx ty Ax Ay F H t e r1 r2 q Q m => by
  replace q : (k tx ty).or (k' tx ty) = some t := q
  cases c : k tx ty with
  | some z => rw [c] at q; simp at q; subst q; exact .inl (h x y tx ty Ax Ay F H z e r1 r2 c Q m)
  | none => rw [c] at q; simp at q; exact .inr (h' x y tx ty Ax Ay F H t e r1 r2 q Q m)
theorem Pure1.or {K : Par} {r r' : V → Hp → VK → Prop} {k k' : T → Option T} (h : Pure1 K r k) (h' : Pure1 K r' k') : Pure1 K (fun x H Q => r x H Q ∨ r' x H Q) (fun a => (k a).or (k' a)) := fun x tx Ax F H t e r1 q Q m => by
  replace q : (k tx).or (k' tx) = some t := q
  cases c : k tx with
  | some z => rw [c] at q; simp at q; subst q; exact .inl (h x tx Ax F H z e r1 c Q m)
  | none => rw [c] at q; simp at q; exact .inr (h' x tx Ax F H t e r1 q Q m)

section
variable {K : Par} {F H : Hp} {v : V} {A : List Addr}
theorem R.int {i : Int} (r : R K F H v (.d (.int i)) A) : v = .int i := by cases r with | d h => cases h; rfl
theorem R.str {x : Str} (r : R K F H v (.d (.str x)) A) : v = .str x := by cases r with | d h => cases h; rfl
theorem R.bl {b : Bool} (r : R K F H v (.d (.bool b)) A) : v = .bl b := by cases r with | d h => cases h; rfl
theorem R.non (r : R K F H v (.d .none) A) : v = .non := by cases r with | d h => cases h; rfl
end

/-! ### ints -/
def kI2 (C : Int → Int → Bool) (g : Int → Int → D) : T → T → Option T
  | .d (.int a), .d (.int b) => if C a b = true then some (.d (g a b)) else none
  | _, _ => none
theorem kI2_some {C : Int → Int → Bool} {g : Int → Int → D} {a b t : T} (h : kI2 C g a b = some t) : ∃ i j, a = .d (.int i) ∧ b = .d (.int j) ∧ C i j = true ∧ t = .d (g i j) := by
  unfold kI2 at h
  split at h
  · split at h
    · cases h; exact ⟨_, _, rfl, rfl, by assumption, rfl⟩
    · cases h
  · cases h
/-- a number or a truth made of two numbers -/
theorem pure_I2 {K : Par} {C : Int → Int → Bool} {g : Int → Int → D} {P : Int → Int → Prop} {gv : Int → Int → V} (hc : ∀ i j, C i j = true → P i j) (hg : ∀ (F : Hp) i j, Fz K F (gv i j) (g i j)) : Pure2 K (rI P gv) (kI2 C g) := fun x y tx ty Ax Ay F H t e r1 r2 q Q m => by
  obtain ⟨i, j, rfl, rfl, c, rfl⟩ := kI2_some q
  exact ⟨i, j, r1.int, r2.int, hc i j c, mk_scal m e (hg F i j)⟩
theorem pure_I0 {K : Par} {g : Int → Int → D} {gv : Int → Int → V} (hg : ∀ (F : Hp) i j, Fz K F (gv i j) (g i j)) : Pure2 K (rI0 gv) (kI2 (fun _ _ => true) g) := fun x y tx ty Ax Ay F H t e r1 r2 q Q m => by
  obtain ⟨i, j, rfl, rfl, c, rfl⟩ := kI2_some q
  exact ⟨i, j, r1.int, r2.int, mk_scal m e (hg F i j)⟩
/-- below 2 ^ 64 in size -/
def in64 (i : Int) : Bool := decide (-(2 ^ 64) < i) && decide (i < 2 ^ 64)
def kAddI : T → T → Option T := kI2 (fun _ _ => true) fun a b => .int (a + b)
def kSubI : T → T → Option T := kI2 (fun _ _ => true) fun a b => .int (a - b)
def kMulI : T → T → Option T := kI2 (fun a b => in64 a || in64 b) fun a b => .int (a * b)
def kDivI : T → T → Option T := kI2 (fun _ b => decide (0 < b) && decide (b < 1073741824)) fun a b => .int (a / b)
def kModI : T → T → Option T := kI2 (fun _ b => decide (0 < b)) fun a b => .int (a % b)
def kPowI : T → T → Option T := kI2 (fun a b => decide (0 ≤ b) && decide (b ≤ 1000000) && decide (a.natAbs < 2 ^ 64)) fun a b => .int (a ^ b.toNat)
theorem p_addI {K : Par} : Pure2 K (rI0 fun i j => .int (i + j)) kAddI := pure_I0 fun _ _ _ => .int _
theorem p_subI {K : Par} : Pure2 K (rI0 fun i j => .int (i - j)) kSubI := pure_I0 fun _ _ _ => .int _
theorem p_mulI {K : Par} : Pure2 K (rI CMul fun i j => .int (i * j)) kMulI := pure_I2 (fun i j h => by
  simp only [in64, Bool.or_eq_true, Bool.and_eq_true, decide_eq_true_eq] at h; exact h) fun _ _ _ => .int _
theorem p_divI {K : Par} : Pure2 K (rI CDiv fun i j => .int (i / j)) kDivI := pure_I2 (fun i j h => by
  simp only [Bool.and_eq_true, decide_eq_true_eq] at h; exact h) fun _ _ _ => .int _
theorem p_modI {K : Par} : Pure2 K (rI (fun _ j => 0 < j) fun i j => .int (i % j)) kModI := pure_I2 (fun i j h => of_decide_eq_true h) fun _ _ _ => .int _
theorem p_powI {K : Par} : Pure2 K (rI CPow fun i j => .int (i ^ j.toNat)) kPowI := pure_I2 (fun i j h => by
  simp only [Bool.and_eq_true, decide_eq_true_eq] at h; exact ⟨h.1.1, h.1.2, h.2⟩) fun _ _ _ => .int _
def kLtI : T → T → Option T := kI2 (fun _ _ => true) fun a b => .bool (decide (a < b))
def kLeI : T → T → Option T := kI2 (fun _ _ => true) fun a b => .bool (decide (a ≤ b))
def kGtI : T → T → Option T := kI2 (fun _ _ => true) fun a b => .bool (decide (b < a))
def kGeI : T → T → Option T := kI2 (fun _ _ => true) fun a b => .bool (decide (b ≤ a))
theorem p_ltI {K : Par} : Pure2 K (rI0 fun i j => .bl (decide (i < j))) kLtI := pure_I0 fun _ _ _ => .bl _
theorem p_leI {K : Par} : Pure2 K (rI0 fun i j => .bl (decide (i ≤ j))) kLeI := pure_I0 fun _ _ _ => .bl _
theorem p_gtI {K : Par} : Pure2 K (rI0 fun i j => .bl (decide (j < i))) kGtI := pure_I0 fun _ _ _ => .bl _
theorem p_geI {K : Par} : Pure2 K (rI0 fun i j => .bl (decide (j ≤ i))) kGeI := pure_I0 fun _ _ _ => .bl _

/-! ### texts, lists, tuples -/
def kAddS : T → T → Option T
  | .d (.str a), .d (.str b) => if a.length + b.length ≤ sizeLine then some (.d (.str (a ++ b))) else none
  | _, _ => none
theorem p_addS {K : Par} : Pure2 K (fun x y H Q => ∃ i j, x = .str i ∧ y = .str j ∧ i.length + j.length ≤ sizeLine ∧ Q (.str (i ++ j)) H) kAddS := fun x y tx ty Ax Ay F H t e r1 r2 q Q m => by
  unfold kAddS at q
  split at q
  · split at q
    · cases q; exact ⟨_, _, r1.str, r2.str, by assumption, mk_scal m e (.str _)⟩
    · cases q
  · cases q
def kAddL (a b : T) : Option T := match listOf a, listOf b with
  | some xs, some ys => if xs.length + ys.length ≤ sizeLine then some (.lst ((xs ++ ys).map T.d)) else none
  | _, _ => none
theorem p_addL {K : Par} : Pure2 K rCat kAddL := fun x y tx ty Ax Ay F H t e r1 r2 q Q m => by
  unfold kAddL at q
  split at q
  · rename_i xs ys h1 h2
    split at q
    · rename_i hz
      cases q
      obtain ⟨a, vs, rfl, ha, fa⟩ := listOf_at e r1 h1
      obtain ⟨b, ws, rfl, hb, fb⟩ := listOf_at e r2 h2
      exact ⟨a, b, vs, ws, rfl, rfl, ha, hb, by rw [fa.length, fb.length]; exact hz, mk_list m e (fa.append fb)⟩
    · cases q
  · cases q
theorem tupOf_fz {K : Par} {F H : Hp} (e : Same F H) {v : V} {t : T} {A : List Addr} {ds : List D} {Q : VK} (r : R K F H v t A) (h : tupOf t = some ds) (m : Mk K F H (.d (.tuple ds)) Q) : Q v H := by
  unfold tupOf at h
  split at h
  · cases h
    cases r with
    | d z => exact mk_scal m e z
  · have := asDs_some h
    subst this
    cases r with
    | @tup a vs _ A h1 h2 =>
      have fz := h2.fz
      have sm : Same F (upd F a (.tup vs)) := fun b o q => by
        by_cases c : b = a
        · subst c; rw [upd_same]; rw [← e b o q]; exact h1.symm
        · rw [upd_ne c]; exact q
      refine m _ (upd F a (.tup vs)) H [] (.d (.tup upd_same (fz.mono sm))) (Same.refl H) sm (fun b o q => ?_) (fun b o q => ?_) fun _ q => absurd q (by simp)
      · by_cases c : b = a
        · subst c; rw [upd_same] at q; cases q; exact h1
        · rw [upd_ne c] at q; exact e b o q
      · by_cases c : b = a
        · subst c; rw [upd_same] at q; cases q; exact .inr (.inr rfl)
        · rw [upd_ne c] at q; exact .inl q
  · cases h
def kAddT (a b : T) : Option T := match tupOf a, tupOf b with
  | some xs, some ys => if xs.length + ys.length ≤ sizeLine then some (.d (.tuple (xs ++ ys))) else none
  | _, _ => none
theorem p_addT {K : Par} : Pure2 K (rCatA K.K) kAddT := fun x y tx ty Ax Ay F H t e r1 r2 q Q m => by
  unfold kAddT at q
  split at q
  · rename_i xs ys h1 h2
    split at q
    · rename_i hz
      cases q
      obtain ⟨a, vs, rfl, ha, fa⟩ := tupOf_at e r1 h1
      obtain ⟨b, ws, rfl, hb, fb⟩ := tupOf_at e r2 h2
      refine ⟨a, b, vs, ws, rfl, rfl, ha, hb, by rw [fa.length, fb.length]; exact hz, fun h0 => ?_, fun h0 h3 => ?_, fun _ _ => mk_tup m e (fa.append fb)⟩
      · subst h0
        cases fa
        exact tupOf_fz e r2 h2 m
      · subst h3
        cases fb
        exact tupOf_fz e r1 h1 (by simpa using m)
    · cases q
  · cases q
def kAdd : T → T → Option T := fun a b => (kAddI a b).or ((kAddS a b).or ((kAddL a b).or (kAddT a b)))
/-- a list so many times -/
def kMulL (a b : T) : Option T := match listOf a, b with
  | some xs, .d (.int k) => if (decide (-(2 ^ 63) ≤ k) && decide (k < 2 ^ 63) && decide (xs.length * k.toNat ≤ sizeLine)) = true then some (.lst ((List.replicate k.toNat xs).flatten.map T.d)) else none
  | _, _ => none
theorem FzA.rep {K : Par} {F : Hp} {vs : List V} {ds : List D} (h : FzA K F vs ds) : ∀ k : Nat, FzA K F (List.replicate k vs).flatten (List.replicate k ds).flatten
  | 0 => by simpa using FzA.nil
  | k + 1 => by simpa [List.replicate_succ] using h.append (FzA.rep h k)
theorem p_mulL {K : Par} : Pure2 K rRep kMulL := fun x y tx ty Ax Ay F H t e r1 r2 q Q m => by
  unfold kMulL at q
  split at q
  · rename_i xs k h1
    split at q
    · rename_i hz
      simp only [Bool.and_eq_true, decide_eq_true_eq] at hz
      cases q
      obtain ⟨a, vs, rfl, ha, fa⟩ := listOf_at e r1 h1
      exact ⟨a, k, vs, rfl, r2.int, ha, hz.1.1, hz.1.2, by rw [fa.length]; exact hz.2, mk_list m e (fa.rep _)⟩
    · cases q
  · cases q
def kMul : T → T → Option T := fun a b => (kMulI a b).or (kMulL a b)

/-! ### equality, is, in -/
def okD (x : D) : Bool := SeqAt.shaped x
mutual
theorem noDict_of_lay : ∀ x : D, x.canLay0 = true → noDict x = true
  | .none, _ => rfl
  | .bool _, _ => rfl
  | .int _, _ => rfl
  | .str _, _ => rfl
  | .list xs, h => by
    simp only [PyData.canLay0] at h
    simp only [noDict]; exact noDictA_of_lay xs h
  | .tuple xs, h => by
    simp only [PyData.canLay0] at h
    simp only [noDict]; exact noDictA_of_lay xs h
  | .dict _, h => by simp [PyData.canLay0] at h
theorem noDictA_of_lay : ∀ xs : List D, PyData.canLayAll0 xs = true → noDictA xs = true
  | [], _ => rfl
  | x :: xs, h => by
    simp only [PyData.canLayAll0, Bool.and_eq_true] at h
    simp only [noDictA, Bool.and_eq_true]
    exact ⟨noDict_of_lay x h.1, noDictA_of_lay xs h.2⟩
end
theorem okD_noDict {x : D} (h : okD x = true) : noDict x = true := noDict_of_lay x (SeqAt.canLay_of_shaped h)
def kEqv (neg : Bool) (a b : T) : Option T := match datOf a, datOf b with
  | some x, some y => if (okD x && okD y) = true then some (.d (.bool (if neg then !PyData.eqv x y else PyData.eqv x y))) else none
  | _, _ => none
theorem p_eq {K : Par} : Pure2 K (rEqD K.K) (kEqv false) := fun x y tx ty Ax Ay F H t e r1 r2 q Q m => by
  unfold kEqv at q
  split at q
  · rename_i dx dy h1 h2
    split at q
    · rename_i hz
      simp only [Bool.and_eq_true] at hz
      cases q
      exact ⟨dx, dy, datOf_dp e r1 h1 (okD_noDict hz.1), datOf_dp e r2 h2 (okD_noDict hz.2), hz.1, hz.2, mk_scal m e (.bl _)⟩
    · cases q
  · cases q
theorem p_ne {K : Par} : Pure2 K (rNeD K.K) (kEqv true) := fun x y tx ty Ax Ay F H t e r1 r2 q Q m => by
  unfold kEqv at q
  split at q
  · rename_i dx dy h1 h2
    split at q
    · rename_i hz
      simp only [Bool.and_eq_true] at hz
      cases q
      exact ⟨dx, dy, datOf_dp e r1 h1 (okD_noDict hz.1), datOf_dp e r2 h2 (okD_noDict hz.2), hz.1, hz.2, mk_scal m e (.bl _)⟩
    · cases q
  · cases q
def isNone : T → Bool
  | .d .none => true
  | _ => false
theorem isNone_at {K : Par} {F H : Hp} {v : V} {t : T} {A : List Addr} (r : R K F H v t A) : decide (v = .non) = isNone t := by
  cases r with
  | d h => cases h <;> simp [isNone]
  | _ => simp [isNone]
/-- is None -/
def kIsN (neg : Bool) (a b : T) : Option T := if isNone b = true then some (.d (.bool (if neg then !isNone a else isNone a))) else none
theorem p_isN {K : Par} : Pure2 K (fun x y H Q => y = .non ∧ Q (.bl (decide (x = .non))) H) (kIsN false) := fun x y tx ty Ax Ay F H t e r1 r2 q Q m => by
  unfold kIsN at q
  split at q
  · rename_i h
    cases q
    refine ⟨?_, mk_scal m e (by rw [isNone_at r1]; exact .bl _)⟩
    have := isNone_at r2
    rw [h] at this; exact of_decide_eq_true this
  · cases q
theorem p_notN {K : Par} : Pure2 K (fun x y H Q => y = .non ∧ Q (.bl (!decide (x = .non))) H) (kIsN true) := fun x y tx ty Ax Ay F H t e r1 r2 q Q m => by
  unfold kIsN at q
  split at q
  · rename_i h
    cases q
    refine ⟨?_, mk_scal m e (by rw [isNone_at r1]; exact .bl _)⟩
    have := isNone_at r2
    rw [h] at this; exact of_decide_eq_true this
  · cases q
def kIsB (neg : Bool) : T → T → Option T
  | .d (.bool a), .d (.bool b) => some (.d (.bool (if neg then !decide (a = b) else decide (a = b))))
  | _, _ => none
theorem p_isB {K : Par} : Pure2 K rIsB (kIsB false) := fun x y tx ty Ax Ay F H t e r1 r2 q Q m => by
  unfold kIsB at q
  split at q
  · cases q; exact ⟨_, _, r1.bl, r2.bl, mk_scal m e (.bl _)⟩
  · cases q
theorem p_notB {K : Par} : Pure2 K rNotB (kIsB true) := fun x y tx ty Ax Ay F H t e r1 r2 q Q m => by
  unfold kIsB at q
  split at q
  · cases q; exact ⟨_, _, r1.bl, r2.bl, mk_scal m e (.bl _)⟩
  · cases q
/-- x in a list or tuple of flat things -/
def flatD : D → Bool
  | .none => true
  | .bool _ => true
  | .int _ => true
  | .str _ => true
  | _ => false
theorem flat_at {K : Par} {F : Hp} {v : V} {x : D} (h : Fz K F v x) (f : flatD x = true) : flatV v = true := by
  cases h <;> first | rfl | simp [flatD] at f
theorem eqV_at {K : Par} {F : Hp} {v w : V} {x y : D} (h : Fz K F v x) (h2 : Fz K F w y) (f : flatD x = true) (f2 : flatD y = true) : eqV v w = PyData.eqv x y := by
  cases h <;> first | (simp [flatD] at f; done) | (cases h2 <;> first | (simp [flatD] at f2; done) | rfl)
theorem inV_at {K : Par} {F : Hp} {v : V} {x : D} (h : Fz K F v x) (f : flatD x = true) : ∀ {vs : List V} {ds : List D}, FzA K F vs ds → ds.all flatD = true → vs.all flatV = true ∧ inV v vs = ds.any fun y => PyData.eqv y x
  | _, _, .nil, _ => ⟨rfl, rfl⟩
  | _, _, .cons h1 h2, g => by
    simp only [List.all_cons, Bool.and_eq_true] at g
    obtain ⟨q1, q2⟩ := inV_at h f h2 g.2
    refine ⟨by simp [flat_at h1 g.1, q1], ?_⟩
    unfold inV at q2 ⊢
    rw [List.any_cons, List.any_cons, q2, eqV_at h1 h g.1 f]
def kInF (neg : Bool) (a b : T) : Option T := match a, seqOf b with
  | .d x, some ds => if (flatD x && ds.all flatD) = true then some (.d (.bool (if neg then !(ds.any fun y => PyData.eqv y x) else ds.any fun y => PyData.eqv y x))) else none
  | _, _ => none
theorem p_inF {K : Par} (neg : Bool) : Pure2 K (rIn K.K neg) (kInF neg) := fun x y tx ty Ax Ay F H t e r1 r2 q Q m => by
  unfold kInF at q
  split at q
  · rename_i dx ds h1
    split at q
    · rename_i hz
      simp only [Bool.and_eq_true] at hz
      cases q
      cases r1 with
      | d z =>
        obtain ⟨a, vs, rfl, ha, fa⟩ := seqOf_at e r2 h1
        obtain ⟨q1, q2⟩ := inV_at z hz.1 fa hz.2
        exact ⟨a, vs, rfl, ha, flat_at z hz.1, q1, mk_scal m e (by rw [q2]; exact .bl _)⟩
    · cases q
  · cases q
/-- x in a list of data -/
def kInD (neg : Bool) (a b : T) : Option T := match datOf a, b with
  | some x, .d (.list ds) => if (okD x && okD (.list ds)) = true then some (.d (.bool (if neg then !(ds.any fun y => PyData.eqv y x) else ds.any fun y => PyData.eqv y x))) else none
  | some x, .lst ts => match datsOf ts with
    | some ds => if (okD x && okD (.list ds)) = true then some (.d (.bool (if neg then !(ds.any fun y => PyData.eqv y x) else ds.any fun y => PyData.eqv y x))) else none
    | none => none
  | _, _ => none
theorem kInD_some {neg : Bool} {a b t : T} (h : kInD neg a b = some t) : ∃ x ds, datOf a = some x ∧ datOf b = some (.list ds) ∧ okD x = true ∧ okD (.list ds) = true ∧ t = .d (.bool (if neg then !(ds.any fun y => PyData.eqv y x) else ds.any fun y => PyData.eqv y x)) := by
  unfold kInD at h
  split at h
  · rename_i x ds hx
    split at h
    · rename_i hz
      simp only [Bool.and_eq_true] at hz
      cases h; exact ⟨x, ds, hx, rfl, hz.1, hz.2, rfl⟩
    · cases h
  · rename_i x ts hx
    split at h
    · rename_i ds hd
      split at h
      · rename_i hz
        simp only [Bool.and_eq_true] at hz
        cases h; exact ⟨x, ds, hx, by simp [datOf, hd], hz.1, hz.2, rfl⟩
      · cases h
    · cases h
  · cases h
theorem p_inD {K : Par} : Pure2 K (rInD K.K) (kInD false) := fun x y tx ty Ax Ay F H t e r1 r2 q Q m => by
  obtain ⟨d, ds, h1, h2, o1, o2, rfl⟩ := kInD_some q
  exact ⟨d, ds, datOf_dp e r1 h1 (okD_noDict o1), datOf_dp e r2 h2 (okD_noDict o2), o1, o2, mk_scal m e (.bl _)⟩
theorem p_notInD {K : Par} : Pure2 K (rNotInD K.K) (kInD true) := fun x y tx ty Ax Ay F H t e r1 r2 q Q m => by
  obtain ⟨d, ds, h1, h2, o1, o2, rfl⟩ := kInD_some q
  exact ⟨d, ds, datOf_dp e r1 h1 (okD_noDict o1), datOf_dp e r2 h2 (okD_noDict o2), o1, o2, mk_scal m e (.bl _)⟩
end Hu
set_option Elab.async false
set_option linter.all false
set_option maxRecDepth 100000
/-! HuE: calls of built-ins by trees. -/
namespace Hu
open PySem L2

/-! ### len -/
def kLen : T → Option T
  | .d (.list ds) => some (.d (.int ds.length))
  | .d (.tuple ds) => some (.d (.int ds.length))
  | .d (.str z) => if z.length ≤ sizeLine then some (.d (.int z.length)) else none
  | .lst ts => some (.d (.int ts.length))
  | .tup ts => some (.d (.int ts.length))
  | .scr ns => some (.d (.int ns.length))
  | .dK kvs => some (.d (.int kvs.length))
  | _ => none
def rLenA (K : PySem.W.Frag) : List V → Hp → VK → Prop := fun xs H Q => (∃ p ys, xs = [.ref p] ∧ (SqL K H p ys ∨ SqT K H p ys) ∧ Q (.int ys.length) H) ∨ ((∃ z, xs = [.str z] ∧ z.length ≤ sizeLine ∧ Q (.int z.length) H) ∨ ∃ a kvs, xs = [V.ref a] ∧ H a = some (.dK kvs) ∧ Q (.int (kvs.length : Int)) H)
theorem pairedOne {α β : Type} {P : α → β → Prop} {xs : List α} {b : β} (h : Paired P xs [b]) : ∃ a, xs = [a] ∧ P a b := by
  cases h with
  | cons r p => cases p; exact ⟨_, rfl, r⟩
theorem pairedTwo {α β : Type} {P : α → β → Prop} {xs : List α} {b c : β} (h : Paired P xs [b, c]) : ∃ a a', xs = [a, a'] ∧ P a b ∧ P a' c := by
  cases h with
  | cons r p =>
    cases p with
    | cons r2 p => cases p; exact ⟨_, _, rfl, r, r2⟩
theorem kk1_some {k : T → Option T} {ts : List T} {t : T} (h : kk1 k ts = some t) : ∃ a, ts = [a] ∧ k a = some t := by
  unfold kk1 at h
  split at h
  · exact ⟨_, rfl, h⟩
  · cases h
theorem kk2_some {k : T → T → Option T} {ts : List T} {t : T} (h : kk2 k ts = some t) : ∃ a b, ts = [a, b] ∧ k a b = some t := by
  unfold kk2 at h
  split at h
  · exact ⟨_, _, rfl, h⟩
  · cases h
theorem p_len {K : Par} : PureN K (rLenA K.K) (kk1 kLen) := fun vs ts F H t e p q Q m => by
  obtain ⟨a, rfl, c0⟩ := kk1_some q
  replace q := c0
  obtain ⟨v, rfl, A, r⟩ := pairedOne p
  cases r with
  | d h =>
    cases h with
    | lst h1 h2 => simp [kLen] at q; subst q; exact .inl ⟨_, _, rfl, .inl (.of (e _ _ h1)), mk_scal m e (by rw [h2.length]; exact .int _)⟩
    | tup h1 h2 => simp [kLen] at q; subst q; exact .inl ⟨_, _, rfl, .inr (.of (e _ _ h1)), mk_scal m e (by rw [h2.length]; exact .int _)⟩
    | str z => simp [kLen] at q; obtain ⟨q1, rfl⟩ := q; exact .inr (.inl ⟨_, rfl, q1, mk_scal m e (.int _)⟩)
    | _ => simp [kLen] at q
  | scr h => simp [kLen] at q; subst q; exact .inl ⟨_, _, rfl, .inl (sqL_on e h), mk_scal m e (by simp; exact .int _)⟩
  | lst h1 h2 _ => simp [kLen] at q; subst q; exact .inl ⟨_, _, rfl, .inl (.of h1), mk_scal m e (by rw [h2.length]; exact .int _)⟩
  | tup h1 h2 => simp [kLen] at q; subst q; exact .inl ⟨_, _, rfl, .inr (.of h1), mk_scal m e (by rw [h2.length]; exact .int _)⟩
  | dK h1 h0 h2 _ =>
    simp [kLen] at q; subst q
    refine .inr (.inr ⟨_, _, rfl, h1, mk_scal m e ?_⟩)
    have := congrArg List.length h0
    simp at this
    rw [this]; exact .int _
  | _ => simp [kLen] at q

/-! ### numbers -/
def kAbs : T → Option T
  | .d (.int i) => some (.d (.int (if i < 0 then -i else i)))
  | _ => none
theorem p_abs {K : Par} : PureN K (fun xs H Q => ∃ i, xs = [.int i] ∧ Q (.int (if i < 0 then -i else i)) H) (kk1 kAbs) := fun vs ts F H t e p q Q m => by
  obtain ⟨a, rfl, c0⟩ := kk1_some q
  replace q := c0
  obtain ⟨v, rfl, A, r⟩ := pairedOne p
  unfold kAbs at q
  split at q
  · cases q; rw [r.int]; exact ⟨_, rfl, mk_scal m e (.int _)⟩
  · cases q
def kMax2 : T → T → Option T := kI2 (fun _ _ => true) fun i j => .int (if j > i then j else i)
def kMin2 : T → T → Option T := kI2 (fun _ _ => true) fun i j => .int (if j < i then j else i)
theorem p_max2 {K : Par} : PureN K (fun xs H Q => ∃ i j, xs = [.int i, .int j] ∧ Q (.int (if j > i then j else i)) H) (kk2 kMax2) := fun vs ts F H t e p q Q m => by
  obtain ⟨a, b, rfl, c0⟩ := kk2_some q
  replace q := c0
  obtain ⟨v, w, rfl, ⟨A, r⟩, B, r'⟩ := pairedTwo p
  obtain ⟨i, j, rfl, rfl, _, rfl⟩ := kI2_some q
  rw [r.int, r'.int]; exact ⟨_, _, rfl, mk_scal m e (.int _)⟩
theorem p_min2 {K : Par} : PureN K (fun xs H Q => ∃ i j, xs = [.int i, .int j] ∧ Q (.int (if j < i then j else i)) H) (kk2 kMin2) := fun vs ts F H t e p q Q m => by
  obtain ⟨a, b, rfl, c0⟩ := kk2_some q
  replace q := c0
  obtain ⟨v, w, rfl, ⟨A, r⟩, B, r'⟩ := pairedTwo p
  obtain ⟨i, j, rfl, rfl, _, rfl⟩ := kI2_some q
  rw [r.int, r'.int]; exact ⟨_, _, rfl, mk_scal m e (.int _)⟩
def kInt1 : T → Option T
  | .d (.int i) => some (.d (.int i))
  | .d (.bool k) => some (.d (.int (if k then 1 else 0)))
  | _ => none
theorem p_int1 {K : Par} : PureN K (fun xs H Q => (∃ i, xs = [.int i] ∧ Q (.int i) H) ∨ ∃ k, xs = [.bl k] ∧ Q (.int (if k then 1 else 0)) H) (kk1 kInt1) := fun vs ts F H t e p q Q m => by
  obtain ⟨a, rfl, c0⟩ := kk1_some q
  replace q := c0
  obtain ⟨v, rfl, A, r⟩ := pairedOne p
  unfold kInt1 at q
  split at q
  · cases q; rw [r.int]; exact .inl ⟨_, rfl, mk_scal m e (.int _)⟩
  · cases q; rw [r.bl]; exact .inr ⟨_, rfl, mk_scal m e (.int _)⟩
  · cases q

/-! ### list(x), tuple(x), sum, sorted, all, any -/
def kListOf (t : T) : Option T := (seqOf t).map fun ds => .lst (ds.map T.d)
theorem p_listOf {K : Par} : PureN K (fun xs H Q => ∃ p ys, xs = [.ref p] ∧ (SqL K.K H p ys ∨ SqT K.K H p ys) ∧ ∀ l, H l = none → Q (.ref l) (upd H l (.lst ys))) (kk1 kListOf) := fun vs ts F H t e p q Q m => by
  obtain ⟨a, rfl, c0⟩ := kk1_some q
  replace q := c0
  obtain ⟨v, rfl, A, r⟩ := pairedOne p
  simp only [kListOf, Option.map_eq_some_iff] at q
  obtain ⟨ds, q1, rfl⟩ := q
  obtain ⟨a, ws, rfl, h, z⟩ := seqOf_at e r q1
  exact ⟨a, ws, rfl, h, mk_list m e z⟩
def kTupOf (t : T) : Option T := (seqOf t).map fun ds => .d (.tuple ds)
theorem p_tupOf {K : Par} : PureN K (fun xs H Q => ∃ p ys, xs = [.ref p] ∧ ((SqL K.K H p ys ∧ ∀ l, H l = none → Q (.ref l) (upd H l (.tup ys))) ∨ (SqT K.K H p ys ∧ Q (.ref p) H))) (kk1 kTupOf) := fun vs ts F H t e p q Q m => by
  obtain ⟨a, rfl, c0⟩ := kk1_some q
  replace q := c0
  obtain ⟨v, rfl, A, r⟩ := pairedOne p
  simp only [kTupOf, Option.map_eq_some_iff] at q
  obtain ⟨ds, q1, rfl⟩ := q
  unfold seqOf at q1
  cases c : listOf a with
  | some xs =>
    rw [c] at q1; simp at q1; subst q1
    obtain ⟨b, ws, rfl, h, z⟩ := listOf_at e r c
    exact ⟨b, ws, rfl, .inl ⟨.of h, mk_tup m e z⟩⟩
  | none =>
    rw [c] at q1; simp at q1
    obtain ⟨b, ws, rfl, h, z⟩ := tupOf_at e r q1
    exact ⟨b, ws, rfl, .inr ⟨h, tupOf_fz e r q1 m⟩⟩
def asInts : List D → Option (List Int)
  | [] => some []
  | .int i :: ds => (asInts ds).map (i :: ·)
  | _ :: _ => none
theorem asInts_map (ns : List Int) : asInts (ns.map PyData.int) = some ns := by
  induction ns with
  | nil => rfl
  | cons x r ih => simp [asInts, ih]
theorem asInts_at {K : Par} {F : Hp} : ∀ {ds : List D} {ns : List Int} {vs : List V}, asInts ds = some ns → FzA K F vs ds → vs = ns.map V.int
  | [], ns, _, h, .nil => by simp [asInts] at h; subst h; rfl
  | .int i :: ds, ns, _, h, .cons r z => by
    simp only [asInts, Option.map_eq_some_iff] at h
    obtain ⟨ms, h1, rfl⟩ := h
    cases r
    rw [asInts_at h1 z]; rfl
def kSum (t : T) : Option T := (seqOf t).bind fun ds => (asInts ds).map fun ns => .d (.int ns.sum)
def rSumA (K : PySem.W.Frag) : List V → Hp → VK → Prop := fun vs H Q => rSum K vs H Q ∨ ∃ (a : Addr) (ns : List Int), vs = [V.ref a] ∧ SqT K H a (ns.map V.int) ∧ Q (.int ns.sum) H
open PySem.Spec PyProof.Rows in
theorem cr_sumA {X : Cx} (hc : X.calm = true) : CallR X (.builtin "sum") (rSumA X.K) := (cr_sum hc).or fun pins s σ H vs us Q I r h => by
  (obtain ⟨a, ns, rfl, hs, q⟩ := h)
  obtain ⟨its, rv, hl, hz⟩ := I.tuple hs
  rw [Vals.ref1 r]
  have hi : IntsAre its ns := rv.ints
  obtain ⟨xs, ex⟩ := hi.allInts.items
  have hn : numsOf (intItems xs).toList = ns := by rw [← ex]; exact hi.numsOf
  rw [nums_intItems] at hn
  rw [ex] at hl
  refine PySem.W.ktm_sumG (I.ok.hd hc) hl fun h' tk t' hk => ?_
  (rw [preSum_eq, List.take_of_length_le (by simp), hn])
  exact ⟨.int ns.sum, H, I.kept (t' := tk) hk, ⟨_, rfl⟩, q⟩
theorem p_sum {K : Par} : PureN K (rSumA K.K) (kk1 kSum) := fun vs ts F H t e p q Q m => by
  obtain ⟨a, rfl, c0⟩ := kk1_some q
  replace q := c0
  obtain ⟨v, rfl, A, r⟩ := pairedOne p
  simp only [kSum, Option.bind_eq_some_iff, Option.map_eq_some_iff] at q
  obtain ⟨ds, q1, ns, q2, rfl⟩ := q
  obtain ⟨a, ws, rfl, h, z⟩ := seqOf_at e r q1
  have := asInts_at q2 z
  subst this
  rcases h with h | h
  · exact .inl ⟨a, ns, rfl, h, mk_scal m e (.int _)⟩
  · exact .inr ⟨a, ns, rfl, h, mk_scal m e (.int _)⟩
/-- put in its place (kernels run it) -/
def insB {α : Type} (le : α → α → Bool) (x : α) : List α → List α
  | [] => [x]
  | y :: ys => if le x y = true then x :: y :: ys else y :: insB le x ys
def sortB {α : Type} (le : α → α → Bool) : List α → List α
  | [] => []
  | x :: xs => insB le x (sortB le xs)
theorem insB_perm {α : Type} (le : α → α → Bool) (x : α) : ∀ ys : List α, (insB le x ys).Perm (x :: ys)
  | [] => List.Perm.refl _
  | y :: ys => by
    unfold insB
    split
    · exact List.Perm.refl _
    · exact ((insB_perm le x ys).cons y).trans (List.Perm.swap x y ys)
theorem sortB_perm {α : Type} (le : α → α → Bool) : ∀ xs : List α, (sortB le xs).Perm xs
  | [] => List.Perm.refl _
  | x :: xs => (insB_perm le x _).trans ((sortB_perm le xs).cons x)
theorem insB_sorted {α : Type} {le : α → α → Bool} (tr : ∀ a b c, le a b = true → le b c = true → le a c = true) (to : ∀ a b, le a b = false → le b a = true) (x : α) : ∀ ys : List α, (ys.Pairwise fun a b => le a b = true) → (insB le x ys).Pairwise fun a b => le a b = true
  | [], _ => List.pairwise_singleton _ _
  | y :: ys, h => by
    (obtain ⟨h1, h2⟩ := List.pairwise_cons.mp h)
    unfold insB
    split
    · rename_i c
      refine List.pairwise_cons.mpr ⟨fun z hz => ?_, h⟩
      (rcases List.mem_cons.mp hz with e | hz)
      · rw [e]; exact c
      · exact tr x y z c (h1 z hz)
    · rename_i c
      refine List.pairwise_cons.mpr ⟨fun z hz => ?_, insB_sorted tr to x ys h2⟩
      rcases List.mem_cons.mp ((insB_perm le x ys).mem_iff.mp hz) with e | hz
      · rw [e]; exact to x y (by simpa using c)
      · exact h1 z hz
theorem sortB_sorted {α : Type} {le : α → α → Bool} (tr : ∀ a b c, le a b = true → le b c = true → le a c = true) (to : ∀ a b, le a b = false → le b a = true) : ∀ xs : List α, (sortB le xs).Pairwise fun a b => le a b = true
  | [] => List.Pairwise.nil
  | x :: xs => insB_sorted tr to x _ (sortB_sorted tr to xs)
def sortI (ns : List Int) : List Int := sortB (fun a b => decide (a ≤ b)) ns
theorem sortI_perm (ns : List Int) : (sortI ns).Perm ns := sortB_perm _ _
theorem sortI_sorted (ns : List Int) : (sortI ns).Pairwise (· ≤ ·) := by
  have := sortB_sorted (le := fun a b : Int => decide (a ≤ b)) (fun a b c h1 h2 => by simp at *; omega) (fun a b h => by simp at *; omega) ns
  exact this.imp fun h => by simpa using h
theorem sorted_unique : ∀ {xs ys : List Int}, xs.Perm ys → xs.Pairwise (· ≤ ·) → ys.Pairwise (· ≤ ·) → xs = ys
  | [], ys, p, _, _ => (List.nil_perm.mp p).symm ▸ rfl
  | x :: xs, [], p, _, _ => absurd p (by simp)
  | x :: xs, y :: ys, p, h1, h2 => by
    have e : x = y := by
      have a1 : x ∈ y :: ys := p.subset List.mem_cons_self
      have a2 : y ∈ x :: xs := p.symm.subset List.mem_cons_self
      have b1 := (List.pairwise_cons.mp h1).1
      have b2 := (List.pairwise_cons.mp h2).1
      rcases List.mem_cons.mp a1 with z | z
      · exact z
      · rcases List.mem_cons.mp a2 with w | w
        · exact w.symm
        · have := b2 x z; have := b1 y w; omega
    subst e
    rw [sorted_unique (List.perm_cons x |>.mp p) (List.pairwise_cons.mp h1).2 (List.pairwise_cons.mp h2).2]
theorem sortI_eq {ns ms : List Int} (p : ms.Perm ns) (s : ms.Pairwise (· ≤ ·)) : ms = sortI ns := sorted_unique (p.trans (sortI_perm ns).symm) s (sortI_sorted ns)
theorem fz_ints {K : Par} {F : Hp} (ns : List Int) : FzA K F (ns.map V.int) (ns.map PyData.int) := by
  induction ns with
  | nil => exact .nil
  | cons x r ih => exact .cons (.int x) ih
def kSortI (t : T) : Option T := (listOf t).bind fun ds => (asInts ds).map fun ns => .lst (((sortI ns).map PyData.int).map T.d)
theorem p_sortI {K : Par} : PureN K (rSortedI K.K) (kk1 kSortI) := fun vs ts F H t e p q Q m => by
  obtain ⟨a, rfl, c0⟩ := kk1_some q
  replace q := c0
  obtain ⟨v, rfl, A, r⟩ := pairedOne p
  simp only [kSortI, Option.bind_eq_some_iff, Option.map_eq_some_iff] at q
  obtain ⟨ds, q1, ns, q2, rfl⟩ := q
  obtain ⟨a, ws, rfl, h, z⟩ := listOf_at e r q1
  have := asInts_at q2 z
  subst this
  refine ⟨a, ns, rfl, .of h, fun ns' p hp hs hn => ?_⟩
  rw [sortI_eq hp hs]
  exact mk_list m e (fz_ints _) p hn
def asBools : List D → Option (List Bool)
  | [] => some []
  | .bool b :: ds => (asBools ds).map (b :: ·)
  | _ :: _ => none
theorem asBools_map (bs : List Bool) : asBools (bs.map PyData.bool) = some bs := by
  induction bs with
  | nil => rfl
  | cons x r ih => simp [asBools, ih]
theorem asBools_at {K : Par} {F : Hp} : ∀ {ds : List D} {bs : List Bool} {vs : List V}, asBools ds = some bs → FzA K F vs ds → vs = bs.map V.bl
  | [], bs, _, h, .nil => by simp [asBools] at h; subst h; rfl
  | .bool b :: ds, bs, _, h, .cons r z => by
    simp only [asBools, Option.map_eq_some_iff] at h
    obtain ⟨ms, h1, rfl⟩ := h
    cases r
    rw [asBools_at h1 z]; rfl
def kAll (t : T) : Option T := (listOf t).bind fun ds => (asBools ds).map fun bs => .d (.bool (bs.all id))
def kAny (t : T) : Option T := (listOf t).bind fun ds => (asBools ds).map fun bs => .d (.bool (bs.any id))
theorem p_all {K : Par} : PureN K (rAll K.K) (kk1 kAll) := fun vs ts F H t e p q Q m => by
  obtain ⟨a, rfl, c0⟩ := kk1_some q
  replace q := c0
  obtain ⟨v, rfl, A, r⟩ := pairedOne p
  simp only [kAll, Option.bind_eq_some_iff, Option.map_eq_some_iff] at q
  obtain ⟨ds, q1, bs, q2, rfl⟩ := q
  obtain ⟨a, ws, rfl, h, z⟩ := listOf_at e r q1
  have := asBools_at q2 z
  subst this
  exact ⟨a, bs, rfl, .of h, mk_scal m e (.bl _)⟩
theorem p_any {K : Par} : PureN K (rAny K.K) (kk1 kAny) := fun vs ts F H t e p q Q m => by
  obtain ⟨a, rfl, c0⟩ := kk1_some q
  replace q := c0
  obtain ⟨v, rfl, A, r⟩ := pairedOne p
  simp only [kAny, Option.bind_eq_some_iff, Option.map_eq_some_iff] at q
  obtain ⟨ds, q1, bs, q2, rfl⟩ := q
  obtain ⟨a, ws, rfl, h, z⟩ := listOf_at e r q1
  have := asBools_at q2 z
  subst this
  exact ⟨a, bs, rfl, .of h, mk_scal m e (.bl _)⟩

/-! ### isinstance of built-in classes -/
inductive Ty | int | bool | str | list | tuple | dict | none
  deriving DecidableEq
def Ty.nm : Ty → String
  | .int => "int" | .bool => "bool" | .str => "str" | .list => "list" | .tuple => "tuple" | .dict => "dict" | .none => "NoneType"
def tyOf : T → Option Ty
  | .d .none => some .none
  | .d (.bool _) => some .bool
  | .d (.int _) => some .int
  | .d (.str _) => some .str
  | .d (.list _) => some .list
  | .d (.tuple _) => some .tuple
  | .d (.dict _) => some .dict
  | .scr _ => none
  | .lst _ => some .list
  | .tup _ => some .tuple
  | .dK _ => some .dict
  | .dT _ => some .dict
  | .ins _ _ => none
def subTy : Ty → Ty → Bool
  | .bool, .int => true
  | a, b => decide (a = b)
theorem kit_sub {K : PySem.W.Frag} (a b : Ty) (h : b ≠ .none) : PySem.W.kitOne K (.type a.nm) (.type b.nm) = some (subTy a b) := by
  refine kit_ty ?_
  cases a <;> cases b <;> first | exact absurd rfl h | decide +kernel
theorem tyOf_at {K : Par} {F H : Hp} (e : Same F H) {v : V} {t : T} {A : List Addr} {n : Ty} (r : R K F H v t A) (h : tyOf t = some n) : TyX K.K H v (.type n.nm) := by
  cases r with
  | d z =>
    cases z with
    | non => cases h; exact .base .non
    | bl b => cases h; exact .base (.bl b)
    | int i => cases h; exact .base (.int i)
    | str x => cases h; exact .base (.str x)
    | lst h1 _ => cases h; exact .base (.lst (e _ _ h1))
    | tup h1 _ => cases h; exact .base (.tup (e _ _ h1))
    | dic h1 _ _ => cases h; exact .base (.dK (e _ _ h1))
  | scr z => cases h
  | lst h1 _ _ => cases h; exact .base (.lst h1)
  | tup h1 _ => cases h; exact .base (.tup h1)
  | dK h1 _ _ _ => cases h; exact .base (.dK h1)
  | dT h1 _ _ _ => cases h; exact .base (.dT h1)
  | ins _ _ _ _ _ _ => cases h
def kIsi (c : Ty) (t : T) : Option T := if c = .none then none else (tyOf t).map fun n => .d (.bool (subTy n c))
theorem p_isi {K : Par} (c : Ty) : PureN K (fun vs H Q => rIsi K.K (vs ++ [.ty c.nm]) H Q) (kk1 (kIsi c)) := fun vs ts F H t e p q Q m => by
  obtain ⟨a, rfl, c0⟩ := kk1_some q
  replace q := c0
  obtain ⟨v, rfl, A, r⟩ := pairedOne p
  unfold kIsi at q
  split at q
  · cases q
  · rename_i hc
    simp only [Option.map_eq_some_iff] at q
    obtain ⟨n, q1, rfl⟩ := q
    exact ⟨v, .ty c.nm, .type n.nm, .type c.nm, _, rfl, .ty _, tyOf_at e r q1, kit_sub n c hc, mk_scal m e (.bl _)⟩
end Hu
set_option Elab.async false
set_option linter.all false
set_option maxRecDepth 100000
/-! HuF: expressions. -/
namespace Hu
open PySem L2

abbrev Px (X : Cx) (cls : Str → Addr) : Par := ⟨X.K, cls⟩

/-- a thing of its own: a name's tree is taken where it is owned -/
def gVar (i : Nat) : G T := fun ρ => match getS ρ i with
  | some (.d x) => .ok (.d x) ρ
  | some t => .ok t (ρ.set i none)
  | none => .bad
def gPk (g : G T) : G T := fun ρ => (g ρ).bind fun t ρ' => match t with
  | .d x => .ok (.d x) ρ'
  | _ => .bad
def Opd.vg : Opd → G T
  | .nm i => gVar i
  | .con _ x => fun ρ => .ok (.d x) ρ
  | .val g => g
  | .pk g => gPk g
  | .iv g => fun ρ => (g ρ).bind fun t ρ' => match t with
    | .d (.int i) => .ok (.d (.int i)) ρ'
    | _ => .bad

theorem Sim.drop {K : Par} {F H : Hp} {σ : St} {ρ : Rho} {fp : Nat → List Addr} (s : Sim K F H σ ρ fp) (i : Nat) : Sim K F H σ (ρ.set i none) (fun j => if j = i then [] else fp j) := by
  refine ⟨by simpa using s.len, fun j t h => ?_, fun j k n a ha hb => ?_, fun j a h => ?_, fun j a h => ?_, s.sub⟩
  · by_cases c : j = i
    · subst c
      by_cases l : j < ρ.length
      · rw [List.getElem?_set_self l] at h; cases h
      · rw [List.getElem?_eq_none (by simpa using l)] at h; cases h
    · rw [List.getElem?_set_ne (Ne.symm c)] at h
      simp only [if_neg c]
      exact s.sl j t h
  · split at ha
    · simp at ha
    · split at hb
      · simp at hb
      · exact s.dj j k n a ha hb
  · split at h
    · simp at h
    · exact s.ff j a h
  · split at h
    · simp at h
    · exact s.mt j a h
theorem Ext.drop (F H : Hp) (fp : Nat → List Addr) (i : Nat) : Ext F H fp F H (fun j => if j = i then [] else fp j) (fp i) :=
  ⟨fun _ _ h _ => h, Same.refl F, fun _ _ h => .inl h, fun a h => by
    rcases h with h | ⟨j, h⟩
    · exact .inl ⟨i, h⟩
    · split at h
      · simp at h
      · exact .inl ⟨j, h⟩⟩
/-- an operand as a thing of its own -/
theorem vg_ok {K : Par} {W : XW} (o : Opd) (f : o.fine = true) {σ : St} {H : Hp} {Q : VK} (h : tG K W o.vg σ H Q) : tO K W o σ H Q := by
  obtain ⟨ρ, F, fp, s, h⟩ := h
  cases o with
  | nm i =>
    simp only [Opd.vg, gVar] at h
    cases q : getS ρ i with
    | none => rw [q] at h; exact h.elim
    | some t =>
      obtain ⟨v, hv, r⟩ := s.sl i t (getS_some q)
      refine ⟨v, hv, ?_⟩
      rw [q] at h
      have mv : ∀ t, R K F H v t (fp i) → OutG K W F H σ fp Q (.ok t (ρ.set i none)) → Q v H := fun t r h =>
        h v F H _ (fp i) (s.drop i) ⟨r, fun a ha j hj => by
          split at hj
          · simp at hj
          · exact s.dj j i (by assumption) a hj ha, s.ff i⟩ (Ext.drop F H fp i)
      cases t with
      | d x => exact h v F H fp [] s (Tmp.frz r.fz) (Ext.refl F H fp)
      | _ => exact mv _ r h
  | con v x =>
    exact h v F H fp [] s (Tmp.frz (conOk.fz f)) (Ext.refl F H fp)
  | val g => exact ⟨ρ, F, fp, s, h⟩
  | pk g =>
    refine ⟨ρ, F, fp, s, h.bind.imp (Ext.refl F H fp) fun t ρ' _ h v F' H' fp' A s' r x => ?_⟩
    cases t with
    | d y =>
      cases r with
      | d z => exact h v F' H' fp' [] s' (Tmp.frz z) x
    | _ => exact h.elim
  | iv g =>
    refine ⟨ρ, F, fp, s, h.bind.imp (Ext.refl F H fp) fun t ρ' _ h v F' H' fp' A s' m x => ?_⟩
    cases t with
    | d y =>
      cases y with
      | int i => exact ⟨i, m.r.int, h v F' H' fp' [] s' (Tmp.frz m.r.fz) x.nil⟩
      | _ => exact h.elim
    | _ => exact h.elim

/-- what may be looked at is looked at -/
theorem pk_of_val {K : Par} {W : XW} {g : G T} {σ : St} {H : Hp} {Q : VK} (h : tP K W g σ H Q) : tG K W g σ H Q := tG_of_tP h

section
variable {X : Cx} {cls : Str → Addr} {W : XW} {e a b c : Expr} {pos : Pos} {oa ob oc : Opd}
/-- e is the operand o -/
abbrev DE (X : Cx) (cls : Str → Addr) (W : XW) (e : Expr) (o : Opd) : Prop := PE X e (tO (Px X cls) W o) ∧ o.fine = true
theorem DE.own {o : Opd} (h : DE X cls W e o) : PE X e (tG (Px X cls) W o.vg) := h.1.imp fun σ H Q q => vg_ok o h.2 q
theorem DE.val {o : Opd} (h : DE X cls W e o) : DE X cls W e (.val o.vg) := ⟨h.own, rfl⟩

theorem de_name {i : Nat} {x : Str} (hN : X.N[i]? = some x) (hv : Vis X.env.scope x) (hd : (x == ("__debug__" : Str)) = false) (hcd : (x == ("__classdict__" : Str)) = false) : DE X cls W (.Name x pos) (.nm i) := ⟨pe_var hN hv hd hcd, rfl⟩
theorem de_int {i : Int} {j} : DE X cls W (.Constant (.int i) j pos) (.con (.int i) (.int i)) := ⟨pe_int, by simp [Opd.fine, conOk]⟩
theorem de_bl {k : Bool} {j} : DE X cls W (.Constant (.bool k) j pos) (.con (.bl k) (.bool k)) := ⟨pe_bl, by simp [Opd.fine, conOk]⟩
theorem de_non {j} : DE X cls W (.Constant .none j pos) (.con .non .none) := ⟨pe_non, rfl⟩
theorem de_str {z : Str} {j} : DE X cls W (.Constant (.str z) j pos) (.con (.str z) (.str z)) := ⟨pe_str, by simp [Opd.fine, conOk]⟩

def gP2 (k : T → T → Option T) (a b : Opd) : G T := gOs [a, b] (kP (kk2 k))
def gP1 (k : T → Option T) (a : Opd) : G T := gOs [a] (kP (kk1 k))
theorem fine2 (h1 : oa.fine = true) (h2 : ob.fine = true) : [oa, ob].all Opd.fine = true := by simp [h1, h2]
theorem fine1 (h1 : oa.fine = true) : [oa].all Opd.fine = true := by simp [h1]
theorem de_bin {op : Operator} {r : R2} {k : T → T → Option T} (ho : OpR X (binaryOp op) r) (hk : Pure2 (Px X cls) r k) (ha : DE X cls W a oa) (hb : DE X cls W b ob) : DE X cls W (.BinOp a op b pos) (.val (gP2 k oa ob)) :=
  ⟨(pe_op ho ha.1 hb.1).imp fun _ _ _ q => os_pure (r := rr2 r) (fine2 ha.2 hb.2) (pure2 hk) q, rfl⟩
theorem de_cmp {op : CmpOp} {r : R2} {k : T → T → Option T} (ho : OpR X (compareOp op) r) (hm : behindInMarks op b = false) (hk : Pure2 (Px X cls) r k) (ha : DE X cls W a oa) (hb : DE X cls W b ob) : DE X cls W (.Compare a [op] [b] pos) (.val (gP2 k oa ob)) :=
  ⟨(pe_cmpR ho ha.1 hb.1 hm).imp fun _ _ _ q => os_pure (r := rr2 r) (fine2 ha.2 hb.2) (pure2 hk) q, rfl⟩
theorem de_un {op : UnaryOp} {r : V → Hp → VK → Prop} {k : T → Option T} (ho : UnR X (unaryOp op) r) (hk : Pure1 (Px X cls) r k) (ha : DE X cls W a oa) : DE X cls W (.UnaryOp op a pos) (.val (gP1 k oa)) :=
  ⟨(pe_un ho ha.1).imp fun _ _ _ q => os_pure (r := rr1 r) (fine1 ha.2) (pure1 hk) q, rfl⟩
def kNeg : T → Option T
  | .d (.int i) => some (.d (.int (-i)))
  | _ => none
theorem p_neg {K : Par} : Pure1 K (rU fun i => .int (-i)) kNeg := fun x tx Ax F H t e r1 q Q m => by
  unfold kNeg at q
  split at q
  · cases q; exact ⟨_, r1.int, mk_scal m e (.int _)⟩
  · cases q

/-! ### truth -/
def kTru : T → Option Bool
  | .d .none => some false
  | .d (.bool b) => some b
  | .d (.int i) => some (i != 0)
  | .d (.str z) => if z.length ≤ sizeLine then some ((z.length : Int) != 0) else none
  | .d (.list ds) => some (!ds.isEmpty)
  | .d (.tuple ds) => some (!ds.isEmpty)
  | .lst ts => some (!ts.isEmpty)
  | .tup ts => some (!ts.isEmpty)
  | .dK kvs => some (!kvs.isEmpty)
  | _ => none
theorem isEmpty_len {α β : Type} {xs : List α} {ys : List β} (h : xs.length = ys.length) : (!xs.isEmpty) = !ys.isEmpty := by
  cases xs <;> cases ys <;> first | rfl | simp at h
theorem kTru_at {K : Par} {F H : Hp} (e : Same F H) {v : V} {t : T} {A : List Addr} {k : Bool} (r : R K F H v t A) (h : kTru t = some k) : TruV K.K v H k := by
  cases r with
  | d z =>
    cases z with
    | non => cases h; rfl
    | bl b => cases h; rfl
    | int i => cases h; rfl
    | str x => simp [kTru] at h; exact ⟨h.1, h.2.symm⟩
    | lst h1 h2 => cases h; exact .inl ⟨_, .of (e _ _ h1), (isEmpty_len h2.length).symm⟩
    | tup h1 h2 => cases h; exact .inr (.inl ⟨_, .of (e _ _ h1), (isEmpty_len h2.length).symm⟩)
    | dic _ _ _ => cases h
  | scr _ => cases h
  | lst h1 h2 _ => cases h; exact .inl ⟨_, .of h1, (isEmpty_len h2.length).symm⟩
  | tup h1 h2 => cases h; exact .inr (.inl ⟨_, .of h1, (isEmpty_len h2.length).symm⟩)
  | dK h1 h0 _ _ => cases h; exact .inr (.inr ⟨_, h1, (isEmpty_len (by have := congrArg List.length h0; simpa using this)).symm⟩)
  | dT _ _ _ _ => cases h
  | ins _ _ _ _ _ _ => cases h
def PostB (K : Par) (F H : Hp) (σ : St) (fp : Nat → List Addr) (Q : Bool → Hp → Prop) (k : Bool) (ρ' : Rho) : Prop :=
  ∀ F' H' fp', Sim K F' H' σ ρ' fp' → Ext F H fp F' H' fp' [] → Q k H'
/-- a test's reading -/
def tT (K : Par) (W : XW) (g : G Bool) : TT := fun σ H Q => ∃ ρ F fp, Sim K F H σ ρ fp ∧ OutR K W F H σ fp (PostB K F H σ fp Q) (g ρ)
def kB (kk : List T → Option Bool) : List T → G Bool := fun ts ρ => match kk ts with
  | some t => .ok t ρ
  | none => .bad
def kkT : List T → Option Bool
  | [t] => kTru t
  | _ => none
def gTru (o : Opd) : G Bool := gOs [o] (kB kkT)
/-- the operands' end, in general -/
theorem gOs_run {α : Type} {K : Par} {σ : St} {os : List Opd} (f : os.all Opd.fine = true) {k : List T → G α} {P : α → Rho → Prop} {F H F0 H0 : Hp} {fp fp0 : Nat → List Addr} {A0 : List Addr} {ρ : Rho} {Q : List V → Hp → Prop} (x0 : Ext F0 H0 fp0 F H fp A0) (s : Sim K F H σ ρ fp) (o : OutR K W F0 H0 σ fp0 P (gOs os k ρ))
    (z : ∀ vs xs ts ρ' F' H' fp' B, Sim K F' H' σ ρ' fp' → Ext F H fp F' H' fp' B → ArgsR K F' H' σ fp' os vs xs B → fins os xs ρ' = some ts → Paired (fun v t => ∃ A, R K F' H' v t A) vs ts → OutR K W F0 H0 σ fp0 P (k ts ρ') → Q vs H') : tOs K W os σ H Q := by
  refine runs_ok os f x0 s o.bind fun vs xs ρ' F' H' fp' B s' x ha p => ?_
  cases q : fins os xs ρ' with
  | none => rw [q] at p; exact p.elim
  | some ts =>
    rw [q] at p
    exact z vs xs ts ρ' F' H' fp' B s' x ha q (ha.all s' q) p
/-- operands that are weighed alone -/
theorem os_bool {K : Par} {os : List Opd} (f : os.all Opd.fine = true) {kk : List T → Option Bool} {r : List V → Hp → (Bool → Hp → Prop) → Prop} (h : ∀ vs ts F H k Q, Same F H → Paired (fun v t => ∃ A, R K F H v t A) vs ts → kk ts = some k → Q k H → r vs H Q) {σ : St} {H : Hp} {Q : Bool → Hp → Prop}
    (g : tT K W (gOs os (kB kk)) σ H Q) : tOs K W os σ H fun vs H1 => r vs H1 Q := by
  obtain ⟨ρ, F, fp, s, o⟩ := g
  refine gOs_run f (Ext.refl F H fp) s o fun vs xs ts ρ' F' H' fp' B s' x _ _ ha p => ?_
  unfold kB at p
  cases q2 : kk ts with
  | none => rw [q2] at p; exact p.elim
  | some t =>
    rw [q2] at p
    exact h vs ts F' H' t Q s'.sub ha q2 (p F' H' fp' s' x.nil)
/-- e, tested -/
abbrev DT (X : Cx) (cls : Str → Addr) (W : XW) (e : Expr) (g : G Bool) : Prop := PT X e (tT (Px X cls) W g)
/-- its test is its value's truth -/
def plainTest : Expr → Bool
  | .UnaryOp _ _ _ => false
  | .BoolOp _ _ _ => false
  | .IfExp _ _ _ _ => false
  | .Compare _ _ _ _ => false
  | _ => true
theorem plainTest_ok {env : Env} : ∀ {e : Expr}, plainTest e = true → ∀ whole, isTrue e env whole = (do let v ← whole; standAt e.pos; holding [v] (truthy v)) := by
  intro e h whole
  cases e <;> first | (simp [plainTest] at h; done) | rfl
theorem dt_tru (he : plainTest e = true) (ha : DE X cls W e oa) : DT X cls W e (gTru oa) :=
  (pt_truth ha.1 (plainTest_ok he)).imp fun σ H Q q => os_bool (os := [oa]) (fine1 ha.2) (r := fun vs H Q => match vs with | [x] => ∃ k, TruV X.K x H k ∧ Q k H | _ => False) (fun vs ts F H k Q e p c z => by
    cases p with
    | nil => simp [kkT] at c
    | cons r p =>
      cases p with
      | nil =>
        obtain ⟨A, r⟩ := r
        exact ⟨k, kTru_at (K := Px X cls) e r c, z⟩
      | cons _ _ => simp [kkT] at c) q
def gTest (g : G T) : G Bool := fun ρ => (g ρ).bind fun t ρ' => match t with
  | .d (.bool b) => .ok b ρ'
  | _ => .bad
theorem test_ok {K : Par} {g : G T} {σ : St} {H : Hp} {Q : Bool → Hp → Prop} (h : tT K W (gTest g) σ H Q) : tG K W g σ H fun x H' => ∃ k, x = .bl k ∧ Q k H' := by
  obtain ⟨ρ, F, fp, s, o⟩ := h
  refine ⟨ρ, F, fp, s, o.bind.imp (Ext.refl F H fp) fun t ρ' _ o v F' H' fp' A s' m x => ?_⟩
  cases t with
  | d y =>
    cases y with
    | bool k => exact ⟨k, m.r.bl, o F' H' fp' s' x.nil⟩
    | _ => exact o.elim
  | _ => exact o.elim
theorem dt_cmp {op : CmpOp} {r : R2} {k : T → T → Option T} (ho : OpR X (compareOp op) r) (hm : behindInMarks op b = false) (hk : Pure2 (Px X cls) r k) (ha : DE X cls W a oa) (hb : DE X cls W b ob) : DT X cls W (.Compare a [op] [b] pos) (gTest (gP2 k oa ob)) :=
  (pt_cmpR ho ha.1 hb.1 hm).imp fun _ _ _ q => os_pure (r := rr2 r) (fine2 ha.2 hb.2) (pure2 hk) (test_ok q)
def gNotB (g : G Bool) : G Bool := fun ρ => (g ρ).bind fun k ρ' => .ok (!k) ρ'
def gAndB (g h : G Bool) : G Bool := fun ρ => (g ρ).bind fun k ρ' => if k = true then h ρ' else .ok false ρ'
def gOrB (g h : G Bool) : G Bool := fun ρ => (g ρ).bind fun k ρ' => if k = true then .ok true ρ' else h ρ'
theorem dt_not {g : G Bool} (h : DT X cls W a g) : DT X cls W (.UnaryOp .Not a pos) (gNotB g) := (pt_not h).imp fun σ H Q q => by
  obtain ⟨ρ, F, fp, s, o⟩ := q
  exact ⟨ρ, F, fp, s, o.bind.imp (Ext.refl F H fp) fun k ρ' _ o F' H' fp' s' x => o F' H' fp' s' x⟩
theorem PostB.shift {K : Par} {F H F1 H1 : Hp} {σ : St} {fp fp1 : Nat → List Addr} {A : List Addr} {Q : Bool → Hp → Prop} {k : Bool} {ρ' : Rho} (h : PostB K F H σ fp Q k ρ') (x : Ext F H fp F1 H1 fp1 A) : PostB K F1 H1 σ fp1 Q k ρ' := fun F' H' fp' s y => h F' H' fp' s (x.trans y)
theorem OutR.goB {K : Par} {F H F1 H1 : Hp} {σ : St} {fp fp1 : Nat → List Addr} {A : List Addr} {Q : Bool → Hp → Prop} {o : Out Bool} (h : OutR K W F H σ fp (PostB K F H σ fp Q) o) (x : Ext F H fp F1 H1 fp1 A) : OutR K W F1 H1 σ fp1 (PostB K F1 H1 σ fp1 Q) o :=
  h.imp x fun _ _ _ p => p.shift x
abbrev DW (X : Cx) (cls : Str → Addr) (W : XW) (e : Expr) (g : G Bool) : Prop := PW X e (tT (Px X cls) W g)
theorem _root_.L2.PW.imp {X : Cx} {e : Expr} {t t' : TT} (h : PW X e t) (i : ∀ σ H Q, t' σ H Q → t σ H Q) : PW X e t' := ⟨fun wh pins s σ H Q I q => h.run wh pins s σ H Q I (i σ H Q q)⟩
variable {rest : List Expr} {g g' : G Bool}
theorem dw_and1 (h : DT X cls W a g) : DW X cls W (.BoolOp .And [a] pos) g := pw_and1 h
theorem dw_or1 (h : DT X cls W a g) : DW X cls W (.BoolOp .Or [a] pos) g := pw_or1 h
theorem dw_and (h : DT X cls W a g) (h' : DW X cls W (.BoolOp .And (b :: rest) pos) g') : DW X cls W (.BoolOp .And (a :: b :: rest) pos) (gAndB g g') := (pw_and h h').imp fun σ H Q q => by
  obtain ⟨ρ, F, fp, s, o⟩ := q
  refine ⟨ρ, F, fp, s, o.bind.imp (Ext.refl F H fp) fun k ρ' _ o F' H' fp' s' x => ?_⟩
  cases k with
  | true => rw [if_pos rfl] at o ⊢; exact ⟨ρ', F', fp', s', o.goB x⟩
  | false => rw [if_neg (by decide)] at o ⊢; exact o F' H' fp' s' x
theorem dw_or (h : DT X cls W a g) (h' : DW X cls W (.BoolOp .Or (b :: rest) pos) g') : DW X cls W (.BoolOp .Or (a :: b :: rest) pos) (gOrB g g') := (pw_or h h').imp fun σ H Q q => by
  obtain ⟨ρ, F, fp, s, o⟩ := q
  refine ⟨ρ, F, fp, s, o.bind.imp (Ext.refl F H fp) fun k ρ' _ o F' H' fp' s' x => ?_⟩
  cases k with
  | true => rw [if_pos rfl] at o ⊢; exact o F' H' fp' s' x
  | false => rw [if_neg (by decide)] at o ⊢; exact ⟨ρ', F', fp', s', o.goB x⟩
/-! ### and, or, not as values (truths) -/
def kNot : T → Option T
  | .d (.bool k) => some (.d (.bool (!k)))
  | _ => none
theorem de_not (ha : DE X cls W a oa) : DE X cls W (.UnaryOp .Not a pos) (.val (gP1 kNot oa)) :=
  ⟨(pe_not ha.1).imp fun _ _ _ q => os_pure (os := [oa]) (r := rr1 fun x H Q => ∃ c, x = .bl c ∧ Q (.bl (!c)) H) (fine1 ha.2) (pure1 fun x tx Ax F H t e r1 q Q m => by
    unfold kNot at q
    split at q
    · cases q; exact ⟨_, r1.bl, mk_scal m e (.bl _)⟩
    · cases q) q, rfl⟩
def gAndV (g : G T) (h : G T) : G T := fun ρ => (gTest g ρ).bind fun k ρ' => if k = true then h ρ' else .ok (.d (.bool false)) ρ'
def gOrV (g : G T) (h : G T) : G T := fun ρ => (gTest g ρ).bind fun k ρ' => if k = true then .ok (.d (.bool true)) ρ' else h ρ'
theorem Post.shift {K : Par} {F H F1 H1 : Hp} {σ : St} {fp fp1 : Nat → List Addr} {A : List Addr} {Q : VK} {t : T} {ρ' : Rho} (h : Post K F H σ fp Q t ρ') (x : Ext F H fp F1 H1 fp1 A) : Post K F1 H1 σ fp1 Q t ρ' := fun v F' H' fp' B s m y => h v F' H' fp' B s m (x.trans y)
theorem OutR.goG {K : Par} {F H F1 H1 : Hp} {σ : St} {fp fp1 : Nat → List Addr} {A : List Addr} {Q : VK} {o : Out T} (h : OutG K W F H σ fp Q o) (x : Ext F H fp F1 H1 fp1 A) : OutG K W F1 H1 σ fp1 Q o :=
  h.imp x fun _ _ _ p => p.shift x
theorem gTest_bind {K : Par} {F H : Hp} {σ : St} {fp : Nat → List Addr} {α : Type} {P : α → Rho → Prop} {g : G T} {ρ : Rho} {f : Bool → Rho → Out α} (o : OutR K W F H σ fp P ((gTest g ρ).bind f)) : OutR K W F H σ fp (fun t ρ' => ∃ k, t = .d (.bool k) ∧ OutR K W F H σ fp P (f k ρ')) (g ρ) := by
  unfold gTest at o
  cases q : g ρ with
  | ok t ρ' =>
    rw [q] at o
    cases t with
    | d y =>
      cases y with
      | bool k => exact ⟨k, rfl, o⟩
      | _ => exact o.elim
    | _ => exact o.elim
  | ex c u ρ' => rw [q] at o; exact o
  | bad => rw [q] at o; exact o
theorem de_and (ha : DE X cls W a oa) (hb : DE X cls W (.BoolOp .And (b :: rest) pos) ob) : DE X cls W (.BoolOp .And (a :: b :: rest) pos) (.val (gAndV oa.vg ob.vg)) :=
  ⟨(pe_and ha.own hb.own).imp fun σ H Q q => by
    obtain ⟨ρ, F, fp, s, o⟩ := q
    refine ⟨ρ, F, fp, s, (gTest_bind o).imp (Ext.refl F H fp) fun t ρ' _ o v F' H' fp' A s' m x => ?_⟩
    obtain ⟨k, rfl, o⟩ := o
    refine ⟨k, m.r.bl, ?_⟩
    cases k with
    | true => rw [if_pos rfl] at o ⊢; exact ⟨ρ', F', fp', s', o.goG x⟩
    | false => rw [if_neg (by decide)] at o ⊢; exact o _ F' H' fp' [] s' (Tmp.frz (.bl _)) x.nil, rfl⟩
theorem de_or (ha : DE X cls W a oa) (hb : DE X cls W (.BoolOp .Or (b :: rest) pos) ob) : DE X cls W (.BoolOp .Or (a :: b :: rest) pos) (.val (gOrV oa.vg ob.vg)) :=
  ⟨(pe_or ha.own hb.own).imp fun σ H Q q => by
    obtain ⟨ρ, F, fp, s, o⟩ := q
    refine ⟨ρ, F, fp, s, (gTest_bind o).imp (Ext.refl F H fp) fun t ρ' _ o v F' H' fp' A s' m x => ?_⟩
    obtain ⟨k, rfl, o⟩ := o
    refine ⟨k, m.r.bl, ?_⟩
    cases k with
    | true => rw [if_pos rfl] at o ⊢; exact o _ F' H' fp' [] s' (Tmp.frz (.bl _)) x.nil
    | false => rw [if_neg (by decide)] at o ⊢; exact ⟨ρ', F', fp', s', o.goG x⟩, rfl⟩
theorem de_one {op} (ha : DE X cls W a oa) : DE X cls W (.BoolOp op [a] pos) (.val oa.vg) := ⟨pe_one ha.own, rfl⟩
/-! ### a if t else b -/
def gIf (t : G Bool) (a b : G T) : G T := fun ρ => (t ρ).bind fun k ρ' => if k = true then a ρ' else b ρ'
theorem de_if {g : G Bool} (hc : DT X cls W c g) (ha : DE X cls W a oa) (hb : DE X cls W b ob) : DE X cls W (.IfExp c a b pos) (.val (gIf g oa.vg ob.vg)) :=
  ⟨(pe_ifExp hc ha.own hb.own).imp fun σ H Q q => by
    obtain ⟨ρ, F, fp, s, o⟩ := q
    refine ⟨ρ, F, fp, s, o.bind.imp (Ext.refl F H fp) fun k ρ' _ o F' H' fp' s' x => ?_⟩
    cases k with
    | true => rw [if_pos rfl] at o ⊢; exact ⟨ρ', F', fp', s', o.goG x⟩
    | false => rw [if_neg (by decide)] at o ⊢; exact ⟨ρ', F', fp', s', o.goG x⟩, rfl⟩
end
end Hu
set_option Elab.async false
set_option linter.all false
set_option maxRecDepth 100000
/-! HuG: displays, subscripts, slices, calls of built-ins. -/
namespace Hu
open PySem L2

/-! ### lists of expressions -/
def isStar : Expr → Bool
  | .Starred _ _ => true
  | _ => false
theorem star_cons {e : Expr} {es : List Expr} {env : Env} (h : isStar e = false) : starEach (e :: es) env = (false, eval e env) :: starEach es env := by
  cases e <;> first | rfl | simp [isStar] at h
def anyStar (es : List Expr) : Bool := es.any isStar
theorem star_none {env : Env} {pos : Pos} : ∀ {es : List Expr}, anyStar es = false → (backTo pos (starEach es env)).any (·.1) = false
  | [], _ => rfl
  | e :: es, h => by
    simp only [anyStar, List.any_cons, Bool.or_eq_false_iff] at h
    rw [star_cons h.1]
    have := star_none (env := env) (pos := pos) (es := es) h.2
    simpa [backTo] using this
section
variable {X : Cx} {cls : Str → Addr} {W : XW} {e a b c : Expr} {es : List Expr} {os : List Opd} {pos : Pos} {oa ob oc : Opd}
/-- the expressions are the operands -/
inductive DAs (X : Cx) (cls : Str → Addr) (W : XW) : List Expr → List Opd → Prop
  | nil : DAs X cls W [] []
  | cons {e o es os} : isStar e = false → DE X cls W e o → DAs X cls W es os → DAs X cls W (e :: es) (o :: os)
theorem DAs.pa : ∀ {es : List Expr} {os : List Opd}, DAs X cls W es os → PA X es (tOs (Px X cls) W os)
  | _, _, .nil => pa_nil
  | _, _, .cons h d r => pa_cons d.1 r.pa (star_cons h)
theorem DAs.fine : ∀ {es : List Expr} {os : List Opd}, DAs X cls W es os → os.all Opd.fine = true
  | _, _, .nil => rfl
  | _, _, .cons _ d r => by simp [d.2, r.fine]
theorem DAs.star : ∀ {es : List Expr} {os : List Opd}, DAs X cls W es os → anyStar es = false
  | _, _, .nil => rfl
  | _, _, .cons h _ r => by
    have := r.star
    simp only [anyStar] at this ⊢
    simp [h, this]
theorem DAs.own : ∀ {es : List Expr} {os : List Opd}, DAs X cls W es os → DAs X cls W es (os.map fun o => .val o.vg)
  | _, _, .nil => .nil
  | _, _, .cons h d r => .cons h d.val r.own

/-! ### displays -/
/-- operands that are all of their own -/
theorem ArgsR.vals {K : Par} {F H : Hp} {σ : St} {fp : Nat → List Addr} {ρ : Rho} : ∀ {gs : List (G T)} {vs : List V} {xs : List (Option T)} {B : List Addr} {ts : List T}, ArgsR K F H σ fp (gs.map Opd.val) vs xs B → fins (gs.map Opd.val) xs ρ = some ts →
    RA K F H vs ts B ∧ (∀ a, a ∈ B → ∀ i, a ∉ fp i) ∧ ∀ a, a ∈ B → F a = none
  | [], _, _, _, ts, h, q => by
    cases h
    simp only [List.map_nil, fins] at q
    cases q
    exact ⟨.nil, fun a z => absurd z (by simp), fun a z => absurd z (by simp)⟩
  | g :: gs, _, _, _, ts, h, q => by
    rw [List.map_cons] at h q
    cases h with
    | @val _ t A _ v vs xs B m n ha =>
      simp only [fins] at q
      cases q2 : fins (gs.map Opd.val) xs ρ with
      | none => rw [q2] at q; simp at q
      | some us =>
        rw [q2] at q; simp at q; subst q
        obtain ⟨r, d, f⟩ := ArgsR.vals ha q2
        refine ⟨.cons m.r r n, fun a z i => ?_, fun a z => ?_⟩
        · rcases List.mem_append.mp z with z | z
          · exact m.dj a z i
          · exact d a z i
        · rcases List.mem_append.mp z with z | z
          · exact m.ff a z
          · exact f a z
def mkTup (ts : List T) : T := match asDs ts with
  | some ds => .d (.tuple ds)
  | none => .tup ts
def kLst : List T → G T := fun ts ρ => if ts.length ≤ sizeLine then .ok (.lst ts) ρ else .bad
def kTup : List T → G T := fun ts ρ => if ts.length ≤ sizeLine then .ok (mkTup ts) ρ else .bad
def gLst (os : List Opd) : G T := gOs (os.map fun o => .val o.vg) kLst
def gTup (os : List Opd) : G T := gOs (os.map fun o => .val o.vg) kTup
theorem vals_map (os : List Opd) : (os.map fun o => Opd.val o.vg) = (os.map Opd.vg).map Opd.val := by simp
theorem Sim.laid {K : Par} {F H : Hp} {σ : St} {ρ : Rho} {fp : Nat → List Addr} {p : Addr} {o : HO} (s : Sim K F H σ ρ fp) (n : H p = none) : Sim K F (upd H p o) σ ρ fp :=
  s.grow (same_upd n) (Same.refl F) (s.sub.trans (same_upd n)) fun _ _ h => .inl h
theorem Ext.laid {F H : Hp} {fp : Nat → List Addr} {p : Addr} {o : HO} {A : List Addr} (n : H p = none) (hA : ∀ a, a ∈ A → H a = none) : Ext F H fp F (upd H p o) fp A :=
  Ext.grow (same_upd n) (Same.refl F) (fun _ _ h => .inl h) hA
theorem R.laid {K : Par} {F H : Hp} {p : Addr} {o : HO} {v : V} {t : T} {A : List Addr} (r : R K F H v t A) (n : H p = none) : R K F (upd H p o) v t A :=
  r.frame (Same.refl F) (tupSub_of (same_upd n)) fun a h => by
    obtain ⟨u, e, _⟩ := r.live a h
    rw [upd_ne (ne_of_none e n)]
theorem RA.laid {K : Par} {F H : Hp} {p : Addr} {o : HO} {vs : List V} {ts : List T} {A : List Addr} (r : RA K F H vs ts A) (n : H p = none) : RA K F (upd H p o) vs ts A :=
  r.frame (Same.refl F) (tupSub_of (same_upd n)) fun a h => by
    obtain ⟨u, e, _⟩ := r.live a h
    rw [upd_ne (ne_of_none e n)]
theorem live_ne {H : Hp} {p : Addr} {A : List Addr} (l : Live H A) (n : H p = none) : p ∉ A := fun h => by
  obtain ⟨o, e, _⟩ := l p h
  rw [n] at e; cases e
theorem de_lst (h : DAs X cls W es os) : DE X cls W (.List es pos) (.val (gLst os)) :=
  ⟨(pe_lst h.own.pa).imp fun σ H Q q => by
    obtain ⟨ρ, F, fp, s, o⟩ := q
    refine gOs_run h.own.fine (Ext.refl F H fp) s o fun vs xs ts ρ' F' H' fp' B s' x ha q _ p => ?_
    rw [vals_map] at ha q
    obtain ⟨r, dj, ff⟩ := ha.vals q
    unfold kLst at p
    split at p
    · rename_i hz
      refine ⟨by rw [r.length]; exact hz, fun p' n => ?_⟩
      have pn : p' ∉ B := live_ne r.live n
      have x2 : Ext F H fp F' (upd H' p' (.lst vs)) fp' [p'] := x.trans (Ext.laid n (A := [p']) (by simpa using n))
      refine p _ F' _ fp' (p' :: B) (s'.laid n) ⟨.lst upd_same (r.laid n) pn, fun a z i w => ?_, fun a z => ?_⟩ (x2.more fun a z => ?_)
      · rcases List.mem_cons.mp z with rfl | z
        · exact live_ne (s'.mt i) n w
        · exact dj a z i w
      · rcases List.mem_cons.mp z with rfl | z
        · exact s'.sub.free n
        · exact ff a z
      · rcases List.mem_cons.mp z with rfl | z
        · exact .inl (by simp)
        · exact .inr (x.own a (.inl z))
    · exact p.elim, rfl⟩
theorem mkTup_d {ts : List T} {ds : List D} (h : asDs ts = some ds) : mkTup ts = .d (.tuple ds) := by simp [mkTup, h]
theorem mkTup_t {ts : List T} (h : asDs ts = none) : mkTup ts = .tup ts := by simp [mkTup, h]
theorem RA.nocell {K : Par} {F H : Hp} : ∀ {vs : List V} {ds : List D} {A : List Addr}, RA K F H vs (ds.map T.d) A → A = []
  | _, [], _, .nil => rfl
  | _, _ :: _, _, .cons (.d h) r _ => by rw [RA.nocell r]; rfl
theorem de_tup (h : DAs X cls W es os) {x1} : DE X cls W (.Tuple es x1 pos) (.val (gTup os)) :=
  ⟨(pe_tup h.own.pa).imp fun σ H Q q => by
    obtain ⟨ρ, F, fp, s, o⟩ := q
    refine gOs_run h.own.fine (Ext.refl F H fp) s o fun vs xs ts ρ' F' H' fp' B s' x ha q _ p => ?_
    rw [vals_map] at ha q
    obtain ⟨r, dj, ff⟩ := ha.vals q
    unfold kTup at p
    split at p
    · rename_i hz
      refine ⟨by rw [r.length]; exact hz, ?_⟩
      cases c : asDs ts with
      | some ds =>
        rw [mkTup_d c] at p
        have e := asDs_some c
        subst e
        exact mk_tup (Post.mk s' x p) s'.sub r.fz
      | none =>
        rw [mkTup_t c] at p
        intro p' n
        refine p _ F' _ fp' B (s'.laid n) ⟨.tup upd_same (r.laid n), dj, ff⟩ ((x.trans (Ext.laid n (A := []) (by simp))).more fun a z => .inr (x.own a (.inl z)))
    · exact p.elim, rfl⟩

/-! ### an item -/
theorem RA.get {K : Par} {F H : Hp} : ∀ {vs : List V} {ts : List T} {A : List Addr} {j : Nat} {t : T}, RA K F H vs ts A → ts[j]? = some t → ∃ v B, vs[j]? = some v ∧ R K F H v t B ∧ ∀ a, a ∈ B → a ∈ A
  | _, _, _, _, _, .nil, h => by simp at h
  | _, _, _, 0, _, .cons h1 _ _, h => by
    simp at h; subst h
    exact ⟨_, _, by simp, h1, fun a z => List.mem_append_left _ z⟩
  | _, _, _, j + 1, _, .cons _ h2 _, h => by
    obtain ⟨v, B, e, r, i⟩ := RA.get (j := j) h2 (by simpa using h)
    exact ⟨v, B, by simpa using e, r, fun a z => List.mem_append_right _ (i a z)⟩
theorem atI_map {α β : Type} {xs : List α} {ys : List β} {i : Int} {x : α} (hl : ys.length = xs.length) (h : atI xs i = some x) : ∃ j : Nat, xs[j]? = some x ∧ ∀ y, ys[j]? = some y → atI ys i = some y := by
  unfold atI at h
  cases c : ixN xs.length i with
  | none => rw [c] at h; simp at h
  | some j =>
    rw [c] at h
    refine ⟨j, by simpa using h, fun y hy => ?_⟩
    unfold atI
    rw [hl, c]; simpa using hy
def kIx : T → T → Option T
  | .d (.list ds), .d (.int i) => (atI ds i).map T.d
  | .d (.tuple ds), .d (.int i) => (atI ds i).map T.d
  | .lst ts, .d (.int i) => atI ts i
  | .tup ts, .d (.int i) => atI ts i
  | .scr ns, .d (.int i) => (atI ns i).map fun n => .d (.int n)
  | _, _ => none
/-- k tells the item that r gives -/
def IxK (K : Par) (r : R2) (k : T → T → Option T) : Prop := ∀ {F H : Hp}, Same F H → ∀ {x y : V} {tx ty t : T} {Ax Ay : List Addr}, R K F H x tx Ax → R K F H y ty Ay → k tx ty = some t → ∃ v B, R K F H v t B ∧ (∀ a, a ∈ B → a ∈ Ax) ∧ ∀ Q : VK, Q v H → r x y H Q
/-- the item, its cells among the whole's -/
theorem kIx_at {K : Par} {F H : Hp} (e : Same F H) {x y : V} {tx ty t : T} {Ax Ay : List Addr} (r1 : R K F H x tx Ax) (r2 : R K F H y ty Ay) (q : kIx tx ty = some t) :
    ∃ v B, R K F H v t B ∧ (∀ a, a ∈ B → a ∈ Ax) ∧ ∀ Q : VK, Q v H → rIx K.K x y H Q := by
  unfold kIx at q
  split at q
  · rename_i ds i
    simp only [Option.map_eq_some_iff] at q
    obtain ⟨z, q, rfl⟩ := q
    cases r1 with
    | d h =>
      cases h with
      | lst h1 h2 =>
        obtain ⟨j, hj, g⟩ := atI_map h2.length q
        obtain ⟨v, hv, fz⟩ := h2.get hj
        exact ⟨v, [], .d fz, fun a z => absurd z (by simp), fun Q z => .inl ⟨_, _, i, v, rfl, r2.int, .of (e _ _ h1), g v hv, z⟩⟩
  · rename_i ds i
    simp only [Option.map_eq_some_iff] at q
    obtain ⟨z, q, rfl⟩ := q
    cases r1 with
    | d h =>
      cases h with
      | tup h1 h2 =>
        obtain ⟨j, hj, g⟩ := atI_map h2.length q
        obtain ⟨v, hv, fz⟩ := h2.get hj
        exact ⟨v, [], .d fz, fun a z => absurd z (by simp), fun Q z => .inr (.inl ⟨_, _, i, v, rfl, r2.int, .of (e _ _ h1), g v hv, z⟩)⟩
  · rename_i ts i
    cases r1 with
    | lst h1 h2 _ =>
      obtain ⟨j, hj, g⟩ := atI_map h2.length q
      obtain ⟨v, B, hv, r, sb⟩ := h2.get hj
      exact ⟨v, B, r, fun a z => List.mem_cons_of_mem _ (sb a z), fun Q z => .inl ⟨_, _, i, v, rfl, r2.int, .of h1, g v hv, z⟩⟩
  · rename_i ts i
    cases r1 with
    | tup h1 h2 =>
      obtain ⟨j, hj, g⟩ := atI_map h2.length q
      obtain ⟨v, B, hv, r, sb⟩ := h2.get hj
      exact ⟨v, B, r, sb, fun Q z => .inr (.inl ⟨_, _, i, v, rfl, r2.int, .of h1, g v hv, z⟩)⟩
  · rename_i ns i
    simp only [Option.map_eq_some_iff] at q
    obtain ⟨n, q, rfl⟩ := q
    cases r1 with
    | scr h1 =>
      obtain ⟨j, hj, g⟩ := atI_map (ys := ns.map V.int) (by simp) q
      exact ⟨.int n, [], .d (.int n), fun a z => absurd z (by simp), fun Q z => .inl ⟨_, _, i, .int n, rfl, r2.int, sqL_on e h1, g _ (by simp [hj]), z⟩⟩
  · cases q
def isSlice : Expr → Bool
  | .Slice _ _ _ _ => true
  | _ => false
theorem plainIx_ok {b : Expr} (h : isSlice b = false) : PlainIx b := fun o i => by
  cases b <;> first | rfl | simp [isSlice] at h
variable {r : R2} {kx : T → T → Option T}
def gIx (k : T → T → Option T) (a b : Opd) : G T := gOs [a, b] (kP (kk2 k))
/-- looked at -/
theorem ix_peek {K : Par} (hk : IxK K r kx) (f : [oa, ob].all Opd.fine = true) {σ : St} {H : Hp} {Q : VK} (h : tP K W (gIx kx oa ob) σ H Q) : tOs K W [oa, ob] σ H fun vs H1 => rr2 r vs H1 Q := by
  obtain ⟨ρ, F, fp, s, o⟩ := h
  refine gOs_run f (Ext.refl F H fp) s o fun vs xs ts ρ' F' H' fp' B s' x _ _ ha p => ?_
  unfold kP at p
  cases q : kk2 kx ts with
  | none => rw [q] at p; exact p.elim
  | some t =>
    rw [q] at p
    obtain ⟨a, b, rfl, c⟩ := kk2_some q
    obtain ⟨v, w, rfl, ⟨A, r⟩, A', r'⟩ := pairedTwo ha
    obtain ⟨u, C, ru, _, g⟩ := hk s'.sub r r' c
    exact g Q (p u F' H' fp' C s' ru x.nil)
/-- out of a thing of its own -/
theorem ix_own {K : Par} {g : G T} (hk : IxK K r kx) (f : ob.fine = true) {σ : St} {H : Hp} {Q : VK} (h : tG K W (gIx kx (.val g) ob) σ H Q) : tOs K W [.val g, ob] σ H fun vs H1 => rr2 r vs H1 Q := by
  obtain ⟨ρ, F, fp, s, o⟩ := h
  refine gOs_run (fine2 rfl f) (Ext.refl F H fp) s o fun vs xs ts ρ' F' H' fp' B s' x ar fi ha p => ?_
  unfold kP at p
  cases q : kk2 kx ts with
  | none => rw [q] at p; exact p.elim
  | some t =>
    rw [q] at p
    obtain ⟨a, b, rfl, c⟩ := kk2_some q
    cases ar with
    | @val _ t0 A _ v vs xs B m n ar =>
      have e0 : t0 = a := by
        simp only [fins] at fi
        split at fi
        · simp at fi; exact fi.1
        · cases fi
      subst e0
      obtain ⟨v', w, e, ⟨A1, r⟩, A', r'⟩ := pairedTwo ha
      obtain ⟨rfl, rfl⟩ := by simpa using e
      obtain ⟨u, C, ru, sb, g⟩ := hk s'.sub m.r r' c
      exact g Q (p u F' H' fp' C s' ⟨ru, fun a z i => m.dj a (sb a z) i, fun a z => m.ff a (sb a z)⟩ (x.more fun a z => .inl (List.mem_append_left _ (sb a z))))
/-- how an item is had -/
def oIx (k : T → T → Option T) : Opd → Opd → Opd
  | .val g, b => .val (gIx k (.val g) b)
  | a, b => .pk (gIx k a b)
theorem de_ixG (hr : IxR X r) (hk : IxK (Px X cls) r kx) (ha : DE X cls W a oa) (hb : DE X cls W b ob) (hs : isSlice b = false) : DE X cls W (.Subscript a b pos) (oIx kx oa ob) := by
  have base := pe_ix hr ha.1 hb.1 (plainIx_ok hs) (pos := pos)
  have pk : PE X (.Subscript a b pos) (tP (Px X cls) W (gIx kx oa ob)) := base.imp fun σ H Q q => ix_peek hk (fine2 ha.2 hb.2) q
  cases oa with
  | val g => exact ⟨base.imp fun σ H Q q => ix_own hk hb.2 q, rfl⟩
  | nm i => exact ⟨pk, rfl⟩
  | con v x => exact ⟨pk, rfl⟩
  | pk g => exact ⟨pk, rfl⟩
  | iv g => exact ⟨pk, rfl⟩
theorem de_ix (ha : DE X cls W a oa) (hb : DE X cls W b ob) (hs : isSlice b = false) : DE X cls W (.Subscript a b pos) (oIx kIx oa ob) := de_ixG ix_seq (fun e => kIx_at e) ha hb hs

/-! ### slices -/
def rSlice (K : PySem.W.Frag) : V → Option Int → Option Int → Hp → VK → Prop := fun x lo hi H Q => rSlL K x lo hi H Q ∨ rSlA K x lo hi H Q
theorem sl_any : SlR X (rSlice X.K) := sl_list.or sl_tupA
def cutD (xs : List D) (lo hi : Option Int) : List D := (xs.drop (HT.sIx xs.length 0 lo)).take (HT.sIx xs.length xs.length hi - HT.sIx xs.length 0 lo)
theorem FzA.cut {K : Par} {F : Hp} {vs : List V} {ds : List D} (h : FzA K F vs ds) (lo hi : Option Int) : FzA K F (cutV vs lo hi) (cutD ds lo hi) := by
  unfold cutV cutD
  rw [h.length]
  exact (h.drop _).take _
def kCut (t : T) (lo hi : Option Int) : Option T := match listOf t with
  | some ds => some (.lst ((cutD ds lo hi).map T.d))
  | none => (tupOf t).map fun ds => .d (.tuple (cutD ds lo hi))
theorem kCut_at {K : Par} {F H : Hp} (e : Same F H) {x : V} {tx t : T} {A : List Addr} {lo hi : Option Int} (r : R K F H x tx A) (q : kCut tx lo hi = some t) (Q : VK) (m : Mk K F H t Q) : rSlice K.K x lo hi H Q := by
  unfold kCut at q
  split at q
  · rename_i ds h
    cases q
    obtain ⟨a, vs, rfl, ha, fz⟩ := listOf_at e r h
    exact .inl ⟨a, vs, rfl, .of ha, mk_list m e (fz.cut lo hi)⟩
  · simp only [Option.map_eq_some_iff] at q
    obtain ⟨ds, q, rfl⟩ := q
    obtain ⟨a, vs, rfl, ha, fz⟩ := tupOf_at e r q
    refine .inr ⟨a, vs, rfl, ha, fun hw => ?_, fun _ => mk_tup m e (fz.cut lo hi)⟩
    refine tupOf_fz e r q ?_
    have : cutD ds lo hi = ds := by
      unfold cutD
      rw [← fz.length, hw.1, hw.2, Nat.sub_zero, List.drop_zero, fz.length, List.take_length]
    rw [this] at m; exact m
def kk3 (k : T → Option Int → Option Int → Option T) : List T → Option T
  | [t, .d (.int i), .d (.int j)] => k t (some i) (some j)
  | _ => none
def kk3l (k : T → Option Int → Option Int → Option T) : List T → Option T
  | [t, .d (.int i)] => k t (some i) none
  | _ => none
def kk3u (k : T → Option Int → Option Int → Option T) : List T → Option T
  | [t, .d (.int j)] => k t none (some j)
  | _ => none
def kk3n (k : T → Option Int → Option Int → Option T) : List T → Option T
  | [t] => k t none none
  | _ => none
theorem p_cut3 {K : Par} : PureN K (fun vs H Q => match vs with | [x, .int i, .int j] => rSlice K.K x (some i) (some j) H Q | _ => False) (kk3 kCut) := fun vs ts F H t e p q Q m => by
  unfold kk3 at q
  split at q
  · cases p with
    | cons r1 p =>
      obtain ⟨v, w, rfl, ⟨A, r⟩, B, r'⟩ := pairedTwo p
      obtain ⟨C, r1⟩ := r1
      rw [r.int, r'.int]
      exact kCut_at e r1 q Q m
  · cases q
theorem p_cutl {K : Par} : PureN K (fun vs H Q => match vs with | [x, .int i] => rSlice K.K x (some i) none H Q | _ => False) (kk3l kCut) := fun vs ts F H t e p q Q m => by
  unfold kk3l at q
  split at q
  · obtain ⟨v, w, rfl, ⟨A, r⟩, B, r'⟩ := pairedTwo p
    rw [r'.int]
    exact kCut_at e r q Q m
  · cases q
theorem p_cutu {K : Par} : PureN K (fun vs H Q => match vs with | [x, .int i] => rSlice K.K x none (some i) H Q | _ => False) (kk3u kCut) := fun vs ts F H t e p q Q m => by
  unfold kk3u at q
  split at q
  · obtain ⟨v, w, rfl, ⟨A, r⟩, B, r'⟩ := pairedTwo p
    rw [r'.int]
    exact kCut_at e r q Q m
  · cases q
theorem p_cutn {K : Par} : PureN K (fun vs H Q => match vs with | [x] => rSlice K.K x none none H Q | _ => False) (kk3n kCut) := fun vs ts F H t e p q Q m => by
  unfold kk3n at q
  split at q
  · obtain ⟨v, rfl, A, r⟩ := pairedOne p
    exact kCut_at e r q Q m
  · cases q
variable {p2 : Pos}
theorem de_cut3 (ha : DE X cls W a oa) (hb : DE X cls W b ob) (hc : DE X cls W c oc) : DE X cls W (.Subscript a (.Slice (some b) (some c) none p2) pos) (.val (gOs [oa, .iv ob.vg, .iv oc.vg] (kP (kk3 kCut)))) :=
  ⟨(pe_slice sl_any ha.1 (po_some hb.own) (po_some hc.own)).imp fun σ H Q q => by
    have z := os_pure (os := [oa, .iv ob.vg, .iv oc.vg]) (by rw [List.all_cons, ha.2]; rfl) (p_cut3 (K := Px X cls)) q
    refine tO_mono z fun x H1 z => ?_
    refine tO_mono (o := .val ob.vg) z fun y H2 z => ?_
    obtain ⟨i, rfl, z⟩ := z
    refine ⟨i, rfl, tO_mono (o := .val oc.vg) z fun w H3 z => ?_⟩
    obtain ⟨j, rfl, z⟩ := z
    exact ⟨j, rfl, z⟩, rfl⟩
theorem de_cutl (ha : DE X cls W a oa) (hb : DE X cls W b ob) : DE X cls W (.Subscript a (.Slice (some b) none none p2) pos) (.val (gOs [oa, .iv ob.vg] (kP (kk3l kCut)))) :=
  ⟨(pe_slice sl_any ha.1 (po_some hb.own) po_none).imp fun σ H Q q => by
    have z := os_pure (os := [oa, .iv ob.vg]) (by rw [List.all_cons, ha.2]; rfl) (p_cutl (K := Px X cls)) q
    refine tO_mono z fun x H1 z => ?_
    refine tO_mono (o := .val ob.vg) z fun y H2 z => ?_
    obtain ⟨i, rfl, z⟩ := z
    exact ⟨i, rfl, z⟩, rfl⟩
theorem de_cutu (ha : DE X cls W a oa) (hb : DE X cls W b ob) : DE X cls W (.Subscript a (.Slice none (some b) none p2) pos) (.val (gOs [oa, .iv ob.vg] (kP (kk3u kCut)))) :=
  ⟨(pe_slice sl_any ha.1 po_none (po_some hb.own)).imp fun σ H Q q => by
    have z := os_pure (os := [oa, .iv ob.vg]) (by rw [List.all_cons, ha.2]; rfl) (p_cutu (K := Px X cls)) q
    refine tO_mono z fun x H1 z => ?_
    refine tO_mono (o := .val ob.vg) z fun y H2 z => ?_
    obtain ⟨i, rfl, z⟩ := z
    exact ⟨i, rfl, z⟩, rfl⟩
theorem de_cutn (ha : DE X cls W a oa) : DE X cls W (.Subscript a (.Slice none none none p2) pos) (.val (gOs [oa] (kP (kk3n kCut)))) :=
  ⟨(pe_slice sl_any ha.1 po_none po_none).imp fun σ H Q q => os_pure (os := [oa]) (by simp [ha.2]) (p_cutn (K := Px X cls)) q, rfl⟩

/-! ### calls of built-ins -/
variable {x : Str} {p : Pos}
def gCall (kk : List T → Option T) (os : List Opd) : G T := gOs os (kP kk)
theorem de_call {id : String} {r : List V → Hp → VK → Prop} {kk : List T → Option T} (hc : CallR X (.builtin id) r) (hk : PureN (Px X cls) r kk) (hg : Gl X x) (hm : X.mg x = none) (hv : bootBuiltins x = some (.builtin id)) (h : DAs X cls W (e :: es) os)
    (hn : x ≠ "__name__") (hdb : (x == ("__debug__" : Str)) = false) : DE X cls W (.Call (.Name x p) (e :: es) [] pos) (.val (gCall kk os)) := by
  have st := h.star
  cases h with
  | cons h0 d r' =>
    refine ⟨(pe_callB hc hg hm hv (DAs.cons h0 d r').pa hn hdb (star_cons h0) ?_).imp fun σ H Q q => os_pure (DAs.cons h0 d r').fine hk q, rfl⟩
    simp only [anyStar, List.any_cons, Bool.or_eq_false_iff] at st
    exact star_none st.2
theorem de_callT {id : String} {r : List V → Hp → VK → Prop} {kk : List T → Option T} (hc : CallR X (.type id) r) (hk : PureN (Px X cls) r kk) (hg : Gl X x) (hm : X.mg x = none) (hv : bootBuiltins x = some (.type id)) (h : DAs X cls W (e :: es) os)
    (hn : x ≠ "__name__") (hdb : (x == ("__debug__" : Str)) = false) : DE X cls W (.Call (.Name x p) (e :: es) [] pos) (.val (gCall kk os)) := by
  have st := h.star
  cases h with
  | cons h0 d r' =>
    refine ⟨(pe_callTy hc hg hm hv (DAs.cons h0 d r').pa hn hdb (star_cons h0) ?_).imp fun σ H Q q => os_pure (DAs.cons h0 d r').fine hk q, rfl⟩
    simp only [anyStar, List.any_cons, Bool.or_eq_false_iff] at st
    exact star_none st.2
/-- isinstance(a, C) -/
theorem de_isi {y : Str} {p3 : Pos} (cl : Ty) (hg : Gl X "isinstance") (hm : X.mg "isinstance" = none) (hgy : Gl X y) (hmy : X.mg y = none) (hvy : bootBuiltins y = some (.type cl.nm)) (hny : y ≠ "__name__") (hdy : (y == ("__debug__" : Str)) = false) (hs : isStar a = false) (ha : DE X cls W a oa) :
    DE X cls W (.Call (.Name "isinstance" p) [a, .Name y p3] [] pos) (.val (gP1 (kIsi cl) oa)) := by
  have hb : PE X (.Name y p3) (tC (.ty cl.nm)) := pe_bltn hgy hmy hvy rfl hny hdy
  refine ⟨(pe_callB call_isi hg hm (by decide +kernel) (pa_cons ha.1 (pa_cons hb pa_nil) (star_cons hs)) (by decide) (by decide) (star_cons hs) rfl).imp fun σ H Q q => ?_, rfl⟩
  have z := os_pure (os := [oa]) (fine1 ha.2) (p_isi (K := Px X cls) cl) q
  exact z
end
end Hu
set_option Elab.async false
set_option linter.all false
set_option maxRecDepth 100000
/-! HuH: what is walked: sequences, enumerate, ranges; targets. -/
namespace Hu
open PySem L2

/-! ### rules over lists and tuples alike -/
section
open PySem.Spec PyProof.Rows
variable {X : Cx} {tg e : Expr} {te : TE}
def iSq (K : PySem.W.Frag) (te : TE) : TI := fun σ H R' => te σ H fun x H1 => ∃ a, x = .ref a ∧ (((∃ xs, SqL K H1 a xs) ∧ R' (Itl K a) H1) ∨ ((∃ xs, SqT K H1 a xs) ∧ R' (Itt K a) H1))
theorem pi_sq (he : PE X e te) : PI X tg e (iSq X.K te) := by
  constructor
  intro pins s σ H R' I h
  refine thn (he.run pins s σ H _ I h) fun v s1 ⟨x, H1, I1, r1, a, ex, q⟩ => ?_
  subst ex
  (obtain rfl : v = Value.ref a := r1)
  have new : ∀ o : Obj, FpOk X pins H1 s1.heap.objs.size := fun _ => I1.fpOk (Nat.le_refl _) (I1.hok.fresh (Nat.le_refl _))
  rcases q with ⟨⟨xs, hq⟩, q⟩ | ⟨⟨xs, hq⟩, q⟩
  · obtain ⟨its, rv, p, hz⟩ := I1.list hq
    (refine wpAny_pyIter_list p.isList ?_)
    refine ⟨_, [s1.heap.objs.size], _, _, H1, rfl, ?_, turn_list a _, ⟨_, Heap.get?_push_size _ rfl, rfl, rfl⟩, ?_, q⟩
    · exact I1.kept (t' := s1.toks) fun b o z => Heap.get?_push_of_some _ z
    · intro b hb
      rw [List.mem_singleton.mp hb]; exact new default
  · obtain ⟨its, rv, p, hz⟩ := I1.tuple hq
    (refine wpAny_pyIter_tuple (show s1.heap.IsTuple a its.toArray from p) ?_)
    refine ⟨_, [s1.heap.objs.size], _, _, H1, rfl, ?_, turn_tuple a _, ⟨_, Heap.get?_push_size _ rfl, rfl, rfl⟩, ?_, q⟩
    · exact I1.kept (t' := s1.toks) fun b o z => Heap.get?_push_of_some _ z
    · intro b hb
      rw [List.mem_singleton.mp hb]; exact new default
def iEn (K : PySem.W.Frag) (ta : TA) : TI := fun σ H R' => ta σ H fun vs H1 => ∃ a xs, vs = [.ref a] ∧ SqL K H1 a xs ∧ R' (Ite K a) H1
theorem pi_en {X : Cx} {e : Expr} {ta : TA} {p pos tpos : Pos} {elts : List Expr} {kk : Nat} (hg : Gl X "enumerate") (hm : X.mg "enumerate" = none) (ha : PA X [e] ta) (hs : starEach [e] X.env = [(false, eval e X.env)]) :
    PI X (.Tuple elts kk tpos) (.Call (.Name "enumerate" p) [e] [] pos) (iEn X.K ta) := by
  constructor
  intro pins s σ H R' I h
  refine Call_ (ld_blt I hg hm boot_enumerate (PyProof.Rows.callWith_type1 (thn (ha.run pos pins s σ H _ I h) fun us s1 ⟨vs, H1, I1, r1, a, xs, ex, hq, q⟩ => ?_) hs rfl))
  subst ex
  obtain rfl : us = [Value.ref a] := Vals.ref1 r1
  have old : ∀ b, b ∈ [s1.heap.objs.size + 1, s1.heap.objs.size] → FpOk X pins H1 b := fun b hb => by
    have up : b ≥ s1.heap.objs.size := by
      rcases List.mem_cons.mp hb with rfl | z
      · omega
      · cases List.mem_singleton.mp z; omega
    exact I1.fpOk up (I1.hok.fresh up)
  (obtain ⟨its, rv, p', hz⟩ := I1.list hq)
  refine call_enumerate_list p'.isList fun h' he hit hsz hk => (wpAny_pyIter_enum he ?_)
  exact ⟨s1.heap.objs.size + 1, _, _, _, H1, rfl, I1.kept (t' := s1.toks) hk, turn_enum a (s1.heap.objs.size + 1) s1.heap.objs.size, ⟨⟨.none, he⟩, hit, Nat.succ_ne_self _⟩, old, q⟩
end
end Hu
set_option Elab.async false
set_option linter.all false
set_option maxRecDepth 100000
/-! HuI: walkers over trees, targets, statements, for, while. -/
namespace Hu
open PySem L2

/-! ### what is walked -/
/-- turns, the item of a turn, whether it stands at the end, the slots that are looked at live -/
structure It0 where
  n : Nat
  item : Nat → Rho → Option T
  fin : Rho → Bool
  ls : List Nat
structure Wk (K : Par) (J : It) (w : It0) (ok : Addr → Prop) (Gd : Nat → Hp → Hp → St → (Nat → List Addr) → Prop) : Prop where
  step : ∀ {k F H σ ρ fp t}, k < w.n → Sim K F H σ ρ fp → Gd k F H σ fp → w.item k ρ = some t → J.go k H ∧ ∀ x H', J.yld k H x H' →
    ∃ F' A, (Same H H' ∧ Same F F' ∧ Same F' H' ∧ ∀ a o, F' a = some o → F a = some o ∨ H a = none ∨ isT o = true) ∧ Tmp K F' H' fp x t A ∧ (∀ b, b ∈ A → ok b) ∧ ∀ (fp1 : Nat → List Addr) (σ1 : St), (∀ b i, b ∈ fp1 i → (∃ j, b ∈ fp j) ∨ b ∈ A) → (∀ i, i ∈ w.ls → σ1[i]? = σ[i]?) → Gd (k + 1) F' H' σ1 fp1
  stop : ∀ {F H σ ρ fp}, Sim K F H σ ρ fp → Gd w.n F H σ fp → w.fin ρ = true → J.stop w.n H
  on : ∀ {k F H σ ρ fp F' H' σ' ρ' fp'}, Gd k F H σ fp → Sim K F H σ ρ fp → Sim K F' H' σ' ρ' fp' → Ext F H fp F' H' fp' [] → (∀ i, i ∈ w.ls → σ'[i]? = σ[i]?) → Gd k F' H' σ' fp'

def PostI (K : Par) (F H : Hp) (σ : St) (fp : Nat → List Addr) (R' : It → Hp → Prop) (w : It0) (ρ' : Rho) : Prop :=
  ∀ J F' H' fp' Gd, Sim K F' H' σ ρ' fp' → (∃ A, Ext F H fp F' H' fp' A) → Wk K J w (fun b => (∃ i, b ∈ fp i) ∨ H b = none) Gd → Gd 0 F' H' σ fp' → R' J H'
def tI (K : Par) (W : XW) (g : G It0) : TI := fun σ H R' => ∃ ρ F fp, Sim K F H σ ρ fp ∧ OutR K W F H σ fp (PostI K F H σ fp R') (g ρ)
/-- iter is walked so -/
abbrev DI (X : Cx) (cls : Str → Addr) (W : XW) (tg iter : Expr) (g : G It0) : Prop := PI X tg iter (tI (Px X cls) W g)
theorem _root_.L2.PI.imp {X : Cx} {tg e : Expr} {t t' : TI} (h : PI X tg e t) (i : ∀ σ H R', t' σ H R' → t σ H R') : PI X tg e t' := ⟨fun pins s σ H R' I q => h.run pins s σ H R' I (i σ H R' q)⟩

/-! ### one sequence -/
structure Src where
  slot : Option Nat
  isL : Bool
  ts : List T
def seqK (isL : Bool) (t : T) : Option (List D) := if isL = true then listOf t else tupOf t
def Src.look (q : Src) (ρ : Rho) (i : Nat) : Option (List D) := match getS ρ i with
  | some t => match seqK q.isL t with
    | some ds => if ds.length = q.ts.length then some ds else none
    | none => none
  | none => none
def Src.item (q : Src) (k : Nat) (ρ : Rho) : Option T := match q.slot with
  | none => q.ts[k]?
  | some i => match q.look ρ i with
    | some ds => (ds[k]?).map T.d
    | none => none
def Src.fin (q : Src) (ρ : Rho) : Bool := match q.slot with
  | none => true
  | some i => (q.look ρ i).isSome
def SqX (isL : Bool) (K : PySem.W.Frag) (H : Hp) (a : Addr) (vs : List V) : Prop := match isL with
  | true => SqL K H a vs
  | false => SqT K H a vs
def Cell (isL : Bool) (K : Par) (F H : Hp) (fp : Nat → List Addr) (a : Addr) (B : List Addr) (vs : List V) : Prop := match isL with
  | true => F a = some (.lst vs) ∨ (H a = some (.lst vs) ∧ a ∉ B ∧ F a = none ∧ ∀ i, a ∉ fp i)
  | false => H a = some (.tup vs) ∨ SqT K.K (fun _ => none) a vs
def SGd (K : Par) (ok : Addr → Prop) (q : Src) (a : Addr) (k : Nat) (F H : Hp) (σ : St) (fp : Nat → List Addr) : Prop := match q.slot with
  | some i => σ[i]? = some (some (.ref a))
  | none => ∃ vs B, Cell q.isL K F H fp a B vs ∧ vs.length = q.ts.length ∧ RA K F H (vs.drop k) (q.ts.drop k) B ∧ (∀ b, b ∈ B → ∀ i, b ∉ fp i) ∧ (∀ b, b ∈ B → F b = none) ∧ ∀ b, b ∈ B → ok b
section
variable {K : Par} {ok : Addr → Prop} {q : Src} {a : Addr} {k : Nat} {F H F' H' : Hp} {σ σ' : St} {ρ ρ' : Rho} {fp fp' : Nat → List Addr}
theorem Cell.seq {isL : Bool} {B : List Addr} {vs : List V} (c : Cell isL K F H fp a B vs) (e : Same F H) : SqX isL K.K H a vs := by
  cases isL with
  | true =>
    rcases c with c | ⟨c, _⟩
    · exact .of (e _ _ c)
    · exact .of c
  | false =>
    rcases c with c | c
    · exact .of c
    · exact sqT_any c
theorem seqK_at {isL : Bool} (e : Same F H) {v : V} {t : T} {A : List Addr} {ds : List D} (r : R K F H v t A) (h : seqK isL t = some ds) : ∃ a vs, v = .ref a ∧ SqX isL K.K H a vs ∧ FzA K F vs ds := by
  unfold seqK at h
  cases isL with
  | true =>
    rw [if_pos rfl] at h
    obtain ⟨a, vs, e1, e2, z⟩ := listOf_at e r h
    exact ⟨a, vs, e1, .of e2, z⟩
  | false =>
    rw [if_neg (by decide)] at h
    obtain ⟨a, vs, e1, e2, z⟩ := tupOf_at e r h
    exact ⟨a, vs, e1, e2, z⟩
theorem look_some {i : Nat} {ds : List D} (h : q.look ρ i = some ds) : ∃ t, getS ρ i = some t ∧ seqK q.isL t = some ds ∧ ds.length = q.ts.length := by
  unfold Src.look at h
  split at h
  · rename_i t ht
    split at h
    · rename_i ds' hd
      split at h
      · cases h; exact ⟨t, ht, hd, by assumption⟩
      · cases h
    · cases h
  · cases h
/-- a live slot's sequence -/
theorem look_at (s : Sim K F H σ ρ fp) {i : Nat} {ds : List D} (h : q.look ρ i = some ds) (g : σ[i]? = some (some (.ref a))) : ∃ vs, SqX q.isL K.K H a vs ∧ FzA K F vs ds ∧ ds.length = q.ts.length := by
  obtain ⟨t, h1, h2, h3⟩ := look_some h
  obtain ⟨v, hv, r⟩ := s.sl i t (getS_some h1)
  rw [g] at hv; cases hv
  obtain ⟨b, vs, e1, e2, z⟩ := seqK_at s.sub r h2
  cases e1
  exact ⟨vs, e2, z, h3⟩
theorem SGd.end (s : Sim K F H σ ρ fp) (g : SGd K ok q a k F H σ fp) (f : q.fin ρ = true) : ∃ vs, SqX q.isL K.K H a vs ∧ vs.length = q.ts.length := by
  unfold SGd at g
  unfold Src.fin at f
  split at g
  · rename_i i hi
    rw [hi] at f
    simp only at f
    cases c : q.look ρ i with
    | none => rw [c] at f; simp at f
    | some ds =>
      obtain ⟨vs, h1, h2, h3⟩ := look_at s c g
      exact ⟨vs, h1, by rw [h2.length, h3]⟩
  · obtain ⟨vs, B, c, l, _⟩ := g
    exact ⟨vs, c.seq s.sub, l⟩
theorem SGd.item (s : Sim K F H σ ρ fp) (g : SGd K ok q a k F H σ fp) {t : T} (f : q.item k ρ = some t) : ∃ vs v A, SqX q.isL K.K H a vs ∧ vs[k]? = some v ∧ Tmp K F H fp v t A ∧ (∀ b, b ∈ A → ok b) ∧
    ∀ (fp1 : Nat → List Addr) (σ1 : St), (∀ b i, b ∈ fp1 i → (∃ j, b ∈ fp j) ∨ b ∈ A) → (∀ i, q.slot = some i → σ1[i]? = σ[i]?) → SGd K ok q a (k + 1) F H σ1 fp1 := by
  unfold Src.item at f
  unfold SGd at g ⊢
  cases hs : q.slot with
  | some i =>
    rw [hs] at f g
    simp only at f g
    cases c : q.look ρ i with
    | none => rw [c] at f; cases f
    | some ds =>
      rw [c] at f
      simp only [Option.map_eq_some_iff] at f
      obtain ⟨x, hx, rfl⟩ := f
      obtain ⟨vs, h1, h2, h3⟩ := look_at s c g
      obtain ⟨v, hv, fz⟩ := h2.get hx
      exact ⟨vs, v, [], h1, hv, Tmp.frz fz, fun b z => absurd z (by simp), fun fp1 σ1 _ e => (e i rfl).trans g⟩
  | none =>
    rw [hs] at f g
    simp only at f g
    obtain ⟨vs, B, c, l, ra, dj, ff, okb⟩ := g
    have lt : k < q.ts.length := (List.getElem?_eq_some_iff.mp f).1
    have et : q.ts.drop k = t :: q.ts.drop (k + 1) := by
      rw [List.drop_eq_getElem_cons lt]
      congr 1
      rw [List.getElem?_eq_getElem lt] at f; exact Option.some.inj f
    have lv : k < vs.length := by omega
    have ev : vs.drop k = vs[k] :: vs.drop (k + 1) := List.drop_eq_getElem_cons lv
    rw [et, ev] at ra
    cases ra with
    | @cons _ _ _ _ A C r1 r2 n =>
      refine ⟨vs, vs[k], A, c.seq s.sub, by simp [lv], ⟨r1, fun b z i => dj b (List.mem_append_left _ z) i, fun b z => ff b (List.mem_append_left _ z)⟩, fun b z => okb b (List.mem_append_left _ z), fun fp1 σ1 h _ => ⟨vs, C, ?_, l, r2, fun b z i w => ?_, fun b z => ff b (List.mem_append_right _ z), fun b z => okb b (List.mem_append_right _ z)⟩⟩
      · cases hl : q.isL with
        | true =>
          rw [hl] at c
          rcases c with c | ⟨c1, c2, c3, c4⟩
          · exact .inl c
          · refine .inr ⟨c1, fun z => c2 (List.mem_append_right _ z), c3, fun i w => ?_⟩
            rcases h a i w with ⟨j, z⟩ | z
            · exact c4 j z
            · exact c2 (List.mem_append_left _ z)
        | false => rw [hl] at c; exact c
      · rcases h b i w with ⟨j, y⟩ | y
        · exact dj b (List.mem_append_right _ z) j y
        · exact n b y z
theorem SGd.on {A : List Addr} (g : SGd K ok q a k F H σ fp) (s : Sim K F H σ ρ fp) (s' : Sim K F' H' σ' ρ' fp') (x : Ext F H fp F' H' fp' A) (ag : ∀ i, q.slot = some i → σ'[i]? = σ[i]?) : SGd K ok q a k F' H' σ' fp' := by
  unfold SGd at g ⊢
  cases hs : q.slot with
  | some i =>
    rw [hs] at g
    simp only at g ⊢
    rw [ag i hs]; exact g
  | none =>
    rw [hs] at g
    simp only at g ⊢
    obtain ⟨vs, B, c, l, ra, dj, ff, okb⟩ := g
    have lv := ra.live
    have st : ∀ b, b ∈ B → H' b = H b := fun b z => by
      obtain ⟨o, e, _⟩ := lv b z
      rw [e]; exact x.keep b o e (dj b z)
    have nofp : ∀ b, (∃ o, H b = some o) → (∀ i, b ∉ fp i) → ∀ i, b ∉ fp' i := fun b e n i z => by
      obtain ⟨o, e⟩ := e
      rcases x.own b (.inr ⟨i, z⟩) with ⟨j, y⟩ | y
      · exact n j y
      · rw [e] at y; cases y
    have noF : ∀ b o, H b = some o → isT o = false → F b = none → (∀ i, b ∉ fp i) → F' b = none := fun b o e nt fn n => by
      cases w : F' b with
      | none => rfl
      | some u =>
        have hb := x.keep b o e n
        rcases x.fnew b u w with z | z | z | ⟨i, z⟩
        · rw [fn] at z; cases z
        · rw [e] at z; cases z
        · have := s'.sub b u w
          rw [hb] at this; cases this
          rw [nt] at z; cases z
        · exact absurd z (n i)
    refine ⟨vs, B, ?_, l, ra.frame x.fsub (s.tups x) st, fun b z => nofp b (let ⟨o, e, _⟩ := lv b z; ⟨o, e⟩) (dj b z), fun b z => ?_, okb⟩
    · cases hl : q.isL with
      | true =>
        rw [hl] at c
        rcases c with c | ⟨c1, c2, c3, c4⟩
        · exact .inl (x.fsub _ _ c)
        · exact .inr ⟨x.keep a _ c1 c4, c2, noF a _ c1 rfl c3 c4, nofp a ⟨_, c1⟩ c4⟩
      | false =>
        rw [hl] at c
        rcases c with c | c
        · exact .inl (s.tups x a vs c)
        · exact .inr c
    · obtain ⟨o, e, nt⟩ := lv b z
      exact noF b o e nt (ff b z) (dj b z)
theorem SGd.grow (g : SGd K ok q a k F H σ fp) (h1 : Same H H') (h2 : Same F F') (h3 : Same F' H') (h4 : ∀ a o, F' a = some o → F a = some o ∨ H a = none ∨ isT o = true) : SGd K ok q a k F' H' σ fp := by
  unfold SGd at g ⊢
  cases hs : q.slot with
  | some i => rw [hs] at g; exact g
  | none =>
    rw [hs] at g
    simp only at g ⊢
    obtain ⟨vs, B, c, l, ra, dj, ff, okb⟩ := g
    have lv := ra.live
    have noF : ∀ b o, H b = some o → isT o = false → F b = none → F' b = none := fun b o e nt fn => by
      cases w : F' b with
      | none => rfl
      | some u =>
        have hb := h1 b o e
        rcases h4 b u w with z | z | z
        · rw [fn] at z; cases z
        · rw [e] at z; cases z
        · have := h3 b u w
          rw [hb] at this; cases this
          rw [nt] at z; cases z
    refine ⟨vs, B, ?_, l, ra.frame h2 (tupSub_of h1) (fun b z => by obtain ⟨o, e, _⟩ := lv b z; rw [e]; exact h1 b o e), dj, fun b z => ?_, okb⟩
    · cases hl : q.isL with
      | true =>
        rw [hl] at c
        rcases c with c | ⟨c1, c2, c3, c4⟩
        · exact .inl (h2 _ _ c)
        · exact .inr ⟨h1 a _ c1, c2, noF a _ c1 rfl c3, c4⟩
      | false =>
        rw [hl] at c
        rcases c with c | c
        · exact .inl (h1 _ _ c)
        · exact .inr c
    · obtain ⟨o, e, nt⟩ := lv b z
      exact noF b o e nt (ff b z)
end
/-- a sequence out of a tree of its own -/
def srcOf : T → Option Src
  | .d (.list ds) => some ⟨none, true, ds.map T.d⟩
  | .d (.tuple ds) => some ⟨none, false, ds.map T.d⟩
  | .lst ts => some ⟨none, true, ts⟩
  | .tup ts => some ⟨none, false, ts⟩
  | _ => none
def slotSrc (i : Nat) (t : T) : Option Src := match listOf t with
  | some ds => some ⟨some i, true, ds.map T.d⟩
  | none => match tupOf t with
    | some ds => some ⟨some i, false, ds.map T.d⟩
    | none => none
def Opd.src : Opd → G Src
  | .nm i => fun ρ => match getS ρ i with
    | some t => match slotSrc i t with
      | some q => .ok q ρ
      | none => .bad
    | none => .bad
  | o => fun ρ => (o.vg ρ).bind fun t ρ' => match srcOf t with
    | some q => .ok q ρ'
    | none => .bad
theorem srcOf_at {K : Par} {F H : Hp} {σ : St} {ρ : Rho} {fp : Nat → List Addr} (s : Sim K F H σ ρ fp) {v : V} {t : T} {A : List Addr} {q : Src} {ok : Addr → Prop} (m : Tmp K F H fp v t A) (okA : ∀ b, b ∈ A → ok b) (h : srcOf t = some q) : ∃ a vs, v = .ref a ∧ SqX q.isL K.K H a vs ∧ SGd K ok q a 0 F H σ fp := by
  unfold srcOf at h
  split at h
  · rename_i ds
    cases h
    cases m.r with
    | d z =>
      cases z with
      | lst h1 h2 => exact ⟨_, _, rfl, SqL.of (s.sub _ _ h1), _, [], .inl h1, by simp [h2.length], by simpa using RA.dats h2, fun b z => absurd z (by simp), fun b z => absurd z (by simp), fun b z => absurd z (by simp)⟩
  · rename_i ds
    cases h
    cases m.r with
    | d z =>
      cases z with
      | tup h1 h2 => exact ⟨_, _, rfl, SqT.of (s.sub _ _ h1), _, [], .inl (s.sub _ _ h1), by simp [h2.length], by simpa using RA.dats h2, fun b z => absurd z (by simp), fun b z => absurd z (by simp), fun b z => absurd z (by simp)⟩
  · rename_i ts
    cases h
    obtain ⟨r, dj, ff⟩ := m
    cases r with
    | @lst a vs _ A h1 h2 n =>
      exact ⟨a, vs, rfl, SqL.of h1, vs, A, .inr ⟨h1, n, ff a (by simp), dj a (by simp)⟩, h2.length, by simpa using h2, fun b z i => dj b (List.mem_cons_of_mem _ z) i, fun b z => ff b (List.mem_cons_of_mem _ z), fun b z => okA b (List.mem_cons_of_mem _ z)⟩
  · rename_i ts
    cases h
    obtain ⟨r, dj, ff⟩ := m
    cases r with
    | @tup a vs _ A h1 h2 =>
      exact ⟨a, vs, rfl, SqT.of h1, vs, A, .inl h1, h2.length, by simpa using h2, fun b z i => dj b z i, fun b z => ff b z, okA⟩
  · cases h
/-- an operand's sequence -/
theorem src_ok {K : Par} {W : XW} {α : Type} {P : α → Rho → Prop} (o : Opd) (f : o.fine = true) {F H : Hp} {σ : St} {ρ : Rho} {fp : Nat → List Addr} {k : Src → G α} (s : Sim K F H σ ρ fp) (h : OutR K W F H σ fp P ((o.src ρ).bind k)) {Q : VK}
    (z : ∀ q ρ' a vs F' H' fp' A, Sim K F' H' σ ρ' fp' → Ext F H fp F' H' fp' A → SqX q.isL K.K H' a vs → SGd K (fun b => (∃ i, b ∈ fp i) ∨ H b = none) q a 0 F' H' σ fp' → (∀ i, q.slot = some i → o = .nm i) → OutR K W F H σ fp P (k q ρ') → Q (.ref a) H') : tO K W o σ H Q := by
  have gen : (∀ i, o ≠ .nm i) → o.src = (fun ρ => (o.vg ρ).bind fun t ρ' => match srcOf t with | some q => .ok q ρ' | none => .bad) → tO K W o σ H Q := fun ne e => by
    rw [e] at h
    refine vg_ok o f ⟨ρ, F, fp, s, h.bind.bind.imp (Ext.refl F H fp) fun t ρ' _ h v F' H' fp' A s' m x => ?_⟩
    cases c : srcOf t with
    | none => rw [c] at h; exact h.elim
    | some q =>
      rw [c] at h
      obtain ⟨a, vs, rfl, h1, h2⟩ := srcOf_at s' m (fun b z => x.own b (.inl z)) c
      refine z q ρ' a vs F' H' fp' A s' x h1 h2 (fun i hi => ?_) h
      unfold srcOf at c
      split at c <;> first | (cases c; simp at hi) | cases c
  cases o with
  | nm i =>
    simp only [Opd.src] at h
    cases c : getS ρ i with
    | none => rw [c] at h; exact h.elim
    | some t =>
      rw [c] at h
      simp only at h
      obtain ⟨v, hv, r⟩ := s.sl i t (getS_some c)
      cases c2 : slotSrc i t with
      | none => rw [c2] at h; exact h.elim
      | some q =>
        rw [c2] at h
        have hq : ∃ ds a vs, seqK q.isL t = some ds ∧ q.slot = some i ∧ v = .ref a ∧ SqX q.isL K.K H a vs := by
          unfold slotSrc at c2
          split at c2
          · rename_i ds hd
            cases c2
            obtain ⟨a, vs, e1, e2, _⟩ := listOf_at s.sub r hd
            exact ⟨ds, a, vs, by simp [seqK, hd], rfl, e1, SqL.of e2⟩
          · split at c2
            · rename_i ds hd
              cases c2
              obtain ⟨a, vs, e1, e2, _⟩ := tupOf_at s.sub r hd
              exact ⟨ds, a, vs, by simp [seqK, hd], rfl, e1, e2⟩
            · cases c2
        obtain ⟨ds, a, vs, _, hi, rfl, hx⟩ := hq
        refine ⟨.ref a, hv, z q ρ a vs F H fp [] s (Ext.refl F H fp) hx ?_ (fun j hj => by rw [hi] at hj; cases hj; rfl) h⟩
        unfold SGd
        rw [hi]; exact hv
  | con v x => exact gen (fun i e => by cases e) rfl
  | val g => exact gen (fun i e => by cases e) rfl
  | pk g => exact gen (fun i e => by cases e) rfl
  | iv g => exact gen (fun i e => by cases e) rfl
def Src.it (q : Src) : It0 := ⟨q.ts.length, q.item, q.fin, q.slot.toList⟩
/-- the items themselves -/
theorem wk_plain {K : Par} {ok : Addr → Prop} {q : Src} {a : Addr} : Wk K (if q.isL = true then Itl K.K a else Itt K.K a) q.it ok (SGd K ok q a) where
  step := by
    intro k F H σ ρ fp t hk s g f
    obtain ⟨vs, v, A, h1, h2, m, okA, z⟩ := g.item s f
    cases hl : q.isL with
    | true =>
      rw [hl] at h1
      rw [if_pos rfl]
      refine ⟨⟨vs, v, h1, h2⟩, fun x H' y => ?_⟩
      obtain ⟨rfl, y⟩ := y
      have e := y vs h1
      rw [h2] at e; cases e
      exact ⟨F, A, ⟨Same.refl _, Same.refl _, s.sub, fun _ _ h => .inl h⟩, m, okA, fun fp1 σ1 h e => z fp1 σ1 h fun i hi => e i (by simp [Src.it, hi])⟩
    | false =>
      rw [hl] at h1
      rw [if_neg (by decide)]
      refine ⟨⟨vs, v, h1, h2⟩, fun x H' y => ?_⟩
      obtain ⟨rfl, y⟩ := y
      have e := y vs h1
      rw [h2] at e; cases e
      exact ⟨F, A, ⟨Same.refl _, Same.refl _, s.sub, fun _ _ h => .inl h⟩, m, okA, fun fp1 σ1 h e => z fp1 σ1 h fun i hi => e i (by simp [Src.it, hi])⟩
  stop := by
    intro F H σ ρ fp s g f
    obtain ⟨vs, h1, h2⟩ := g.end s f
    cases hl : q.isL with
    | true =>
      rw [hl] at h1
      rw [if_pos rfl]
      exact ⟨vs, h1, by rw [h2]; exact Nat.le_refl _⟩
    | false =>
      rw [hl] at h1
      rw [if_neg (by decide)]
      exact ⟨vs, h1, by rw [h2]; exact Nat.le_refl _⟩
  on := fun g s s' x ag => g.on s s' x fun i hi => ag i (by simp [Src.it, hi])
/-- an item in a new pair with its number -/
def Src.itE (q : Src) : It0 := ⟨q.ts.length, fun k ρ => (q.item k ρ).map fun t => mkTup [.d (.int (k : Int)), t], q.fin, q.slot.toList⟩
theorem pair_new {K : Par} {F H : Hp} {σ : St} {ρ : Rho} {fp : Nat → List Addr} {k : Nat} {v : V} {t : T} {A : List Addr} {p : Addr} (s : Sim K F H σ ρ fp) (m : Tmp K F H fp v t A) (n : H p = none) :
    ∃ F', (Same F F' ∧ ∀ a o, F' a = some o → F a = some o ∨ H a = none ∨ isT o = true) ∧ Sim K F' (upd H p (.tup [.int (k : Int), v])) σ ρ fp ∧ Tmp K F' (upd H p (.tup [.int (k : Int), v])) fp (.ref p) (mkTup [.d (.int (k : Int)), t]) A ∧ Ext F H fp F' (upd H p (.tup [.int (k : Int), v])) fp [] := by
  have fn : F p = none := s.sub.free n
  cases ht : asDs [.d (.int (k : Int)), t] with
  | some ds =>
    rw [mkTup_d ht]
    have e := asDs_some ht
    have hd : ∃ y, t = .d y ∧ ds = [.int (k : Int), y] := by
      cases ds with
      | nil => simp at e
      | cons d1 r =>
        cases r with
        | nil => simp at e
        | cons d2 r =>
          simp at e
          obtain ⟨e1, e2, e3⟩ := e
          subst e3
          exact ⟨d2, e2, by rw [e1]⟩
    obtain ⟨y, rfl, rfl⟩ := hd
    have fz : Fz K F v y := m.r.fz
    have nA : A = [] := by
      cases m.r with
      | d _ => rfl
    subst nA
    have h4 : ∀ a o, upd F p (.tup [.int (k : Int), v]) a = some o → F a = some o ∨ H a = none ∨ isT o = true := fun a o q => by
      by_cases c : a = p
      · subst c; exact .inr (.inl n)
      · rw [upd_ne c] at q; exact .inl q
    refine ⟨upd F p (.tup [.int (k : Int), v]), ⟨same_upd fn, h4⟩, s.grow (same_upd n) (same_upd fn) (fun a o q => ?_) h4, Tmp.frz (.tup upd_same (.cons (.int _) (.cons (fz.mono (same_upd fn)) .nil))), Ext.grow (same_upd n) (same_upd fn) h4 (by simp)⟩
    by_cases c : a = p
    · subst c; rw [upd_same] at q ⊢; exact q
    · rw [upd_ne c] at q ⊢; exact s.sub a o q
  | none =>
    rw [mkTup_t ht]
    refine ⟨F, ⟨Same.refl F, fun _ _ h => .inl h⟩, s.laid n, ⟨.tup upd_same ?_, m.dj, m.ff⟩, Ext.laid n (by simp)⟩
    have r1 : RA K F (upd H p (.tup [.int (k : Int), v])) [v] [t] (A ++ []) := .cons (m.r.laid n) .nil (by simp)
    rw [List.append_nil] at r1
    exact RA.cons (A := []) (.d (.int _)) r1 (by simp)
theorem wk_enum {K : Par} {ok : Addr → Prop} {q : Src} {a : Addr} (hl : q.isL = true) : Wk K (Ite K.K a) q.itE ok (SGd K ok q a) where
  step := by
    intro k F H σ ρ fp t hk s g f
    simp only [Src.itE, Option.map_eq_some_iff] at f
    obtain ⟨t, f, rfl⟩ := f
    obtain ⟨vs, v, A, h1, h2, m, okA, z⟩ := g.item s f
    have go : ∀ p, H p = none → ∃ F' A, (Same H (upd H p (.tup [.int (k : Int), v])) ∧ Same F F' ∧ Same F' (upd H p (.tup [.int (k : Int), v])) ∧ ∀ a o, F' a = some o → F a = some o ∨ H a = none ∨ isT o = true) ∧ Tmp K F' (upd H p (.tup [.int (k : Int), v])) fp (.ref p) (mkTup [.d (.int (k : Int)), t]) A ∧ (∀ b, b ∈ A → ok b) ∧
        ∀ (fp1 : Nat → List Addr) (σ1 : St), (∀ b i, b ∈ fp1 i → (∃ j, b ∈ fp j) ∨ b ∈ A) → (∀ i, i ∈ q.itE.ls → σ1[i]? = σ[i]?) → SGd K ok q a (k + 1) F' (upd H p (.tup [.int (k : Int), v])) σ1 fp1 := fun p n => by
      obtain ⟨F', ⟨f1, f2⟩, s', m', x'⟩ := pair_new (k := k) s m n
      exact ⟨F', A, ⟨same_upd n, f1, s'.sub, f2⟩, m', okA, fun fp1 σ1 h e => (z fp1 σ1 h fun i hi => e i (by simp [Src.itE, hi])).grow (same_upd n) f1 s'.sub f2⟩
    rw [hl] at h1
    refine ⟨⟨vs, v, h1, h2⟩, fun x H' y => ?_⟩
    obtain ⟨p, u, rfl, n, rfl, y⟩ := y
    have e := y vs h1
    rw [h2] at e; cases e
    exact go p n
  stop := by
    intro F H σ ρ fp s g f
    obtain ⟨vs, h1, h2⟩ := g.end s f
    rw [hl] at h1
    exact ⟨vs, h1, by rw [h2]; exact Nat.le_refl _⟩
  on := fun g s s' x ag => g.on s s' x fun i hi => ag i (by simp [Src.itE, hi])
end Hu
set_option Elab.async false
set_option linter.all false
set_option maxRecDepth 100000
/-! HuJ: walked things, targets, statements, for, while. -/
namespace Hu
open PySem L2
section
variable {X : Cx} {cls : Str → Addr} {W : XW} {e a b c tg : Expr} {es : List Expr} {os : List Opd} {pos : Pos} {oa ob oc o : Opd} {x : Str} {p : Pos}

/-! ### what a for walks -/
def gSeq (o : Opd) : G It0 := fun ρ => (o.src ρ).bind fun q ρ' => .ok q.it ρ'
def gEnum (o : Opd) : G It0 := fun ρ => (o.src ρ).bind fun q ρ' => if q.isL = true then .ok q.itE ρ' else .bad
theorem di_seq (h : DE X cls W e o) : DI X cls W tg e (gSeq o) := (pi_sq h.1).imp fun σ H R' q => by
  obtain ⟨ρ, F, fp, s, q⟩ := q
  refine src_ok o h.2 s q fun q ρ' a vs F' H' fp' A s' x hx g _ p => ⟨a, rfl, ?_⟩
  have z := p _ F' H' fp' _ s' ⟨A, x⟩ wk_plain g
  cases hl : q.isL with
  | true => rw [hl] at hx z; exact .inl ⟨⟨vs, hx⟩, z⟩
  | false => rw [hl] at hx z; exact .inr ⟨⟨vs, hx⟩, z⟩
theorem di_enum {elts : List Expr} {kk : Nat} {tpos : Pos} (hg : Gl X "enumerate") (hm : X.mg "enumerate" = none) (h : DE X cls W e o) (hs : isStar e = false) : DI X cls W (.Tuple elts kk tpos) (.Call (.Name "enumerate" p) [e] [] pos) (gEnum o) :=
  (pi_en hg hm (pa_cons h.1 pa_nil (star_cons hs)) (star_cons hs)).imp fun σ H R' q => by
    obtain ⟨ρ, F, fp, s, q⟩ := q
    refine src_ok (Q := fun x H1 => ∃ a xs, [x] = [.ref a] ∧ SqL X.K H1 a xs ∧ _) o h.2 s q fun q ρ' a vs F' H' fp' A s' x hx g _ p => ?_
    cases hl : q.isL with
    | false => rw [hl, if_neg (by decide)] at p; exact p.elim
    | true => rw [hl] at hx p; exact ⟨a, vs, rfl, hx, p _ F' H' fp' _ s' ⟨A, x⟩ (wk_enum hl) g⟩
def in62 (i : Int) : Bool := decide (-(2 ^ 62) ≤ i) && decide (i < 2 ^ 62)
def rng (lo : Int) (n : Nat) : It0 := ⟨n, fun k _ => some (.d (.int (lo + (k : Int)))), fun _ => true, []⟩
def kRng1 : List T → G It0
  | [.d (.int j)], ρ => if in62 j = true then .ok (rng 0 j.toNat) ρ else .bad
  | _, _ => .bad
def kRng2 : List T → G It0
  | [.d (.int i), .d (.int j)], ρ => if (in62 i && in62 j) = true then .ok (rng i (j - i).toNat) ρ else .bad
  | _, _ => .bad
theorem wk_rng {K : Par} {ok : Addr → Prop} {lo : Int} {n : Nat} : Wk K (Itr lo n) (rng lo n) ok (fun _ _ _ _ _ => True) where
  step := by
    intro k F H σ ρ fp t hk s _ f
    cases f
    refine ⟨hk, fun x H' y => ?_⟩
    obtain ⟨rfl, rfl⟩ := y
    exact ⟨F, [], ⟨Same.refl _, Same.refl _, s.sub, fun _ _ h => .inl h⟩, Tmp.frz (.int _), fun b z => absurd z (by simp), fun _ _ _ _ => trivial⟩
  stop := fun _ _ _ => Nat.le_refl _
  on := fun _ _ _ _ _ => trivial
theorem di_rng1 (hg : Gl X "range") (hm : X.mg "range" = none) (h : DE X cls W e o) (hs : isStar e = false) : DI X cls W tg (.Call (.Name "range" p) [e] [] pos) (gOs [o] kRng1) :=
  (pi_range1 hg hm (pa_cons h.1 pa_nil (star_cons hs)) (star_cons hs)).imp fun σ H R' q => by
    obtain ⟨ρ, F, fp, s, q⟩ := q
    have f1 : [o].all Opd.fine = true := fine1 h.2
    refine gOs_run (Q := fun vs H1 => ∃ j : Int, vs = [.int j] ∧ _) f1 (Ext.refl F H fp) s q fun vs xs ts ρ' F' H' fp' B s' x ar fi ha q => ?_
    clear fi ar
    unfold kRng1 at q
    split at q
    · rename_i j
      split at q
      · rename_i hj
        simp only [in62, Bool.and_eq_true, decide_eq_true_eq] at hj
        obtain ⟨v, rfl, A, r⟩ := pairedOne ha
        rw [r.int]
        exact ⟨j, rfl, hj.1, hj.2, q _ F' H' fp' _ s' ⟨B, x⟩ wk_rng trivial⟩
      · exact q.elim
    · exact q.elim
theorem di_rng2 (hg : Gl X "range") (hm : X.mg "range" = none) (h : DE X cls W a oa) (h' : DE X cls W b ob) (hs : isStar a = false) (hs' : isStar b = false) : DI X cls W tg (.Call (.Name "range" p) [a, b] [] pos) (gOs [oa, ob] kRng2) :=
  (pi_range2 hg hm (pa_cons h.1 (pa_cons h'.1 pa_nil (star_cons hs')) (star_cons hs)) (by rw [star_cons hs, star_cons hs']; rfl) (star_cons hs')).imp fun σ H R' q => by
    obtain ⟨ρ, F, fp, s, q⟩ := q
    refine gOs_run (Q := fun vs H1 => ∃ i j : Int, vs = [.int i, .int j] ∧ _) (fine2 h.2 h'.2) (Ext.refl F H fp) s q fun vs xs ts ρ' F' H' fp' B s' x ar fi ha q => ?_
    clear fi ar
    unfold kRng2 at q
    split at q
    · rename_i i j
      split at q
      · rename_i hj
        simp only [in62, Bool.and_eq_true, decide_eq_true_eq] at hj
        obtain ⟨v, w, rfl, ⟨A, r⟩, A', r'⟩ := pairedTwo ha
        rw [r.int, r'.int]
        exact ⟨i, j, rfl, ⟨hj.1.1, hj.1.2, hj.2.1, hj.2.2⟩, q _ F' H' fp' _ s' ⟨B, x⟩ wk_rng trivial⟩
      · exact q.elim
    · exact q.elim

/-! ### targets -/
/-- the slots but those at st are as they were -/
def Ag (st : List Nat) (σ σ' : St) : Prop := σ'.length = σ.length ∧ ∀ j, j ∉ st → σ'[j]? = σ[j]?
theorem Ag.refl (st : List Nat) (σ : St) : Ag st σ σ := ⟨rfl, fun _ _ => rfl⟩
theorem Ag.trans {st st' : List Nat} {σ σ1 σ2 : St} (h : Ag st σ σ1) (h' : Ag st' σ1 σ2) : Ag (st ++ st') σ σ2 := ⟨h'.1.trans h.1, fun j n => by
  rw [h'.2 j fun z => n (List.mem_append_right _ z), h.2 j fun z => n (List.mem_append_left _ z)]⟩
theorem Ag.mono {st st' : List Nat} {σ σ' : St} (h : Ag st σ σ') (i : ∀ j, j ∈ st → j ∈ st') : Ag st' σ σ' := ⟨h.1, fun j n => h.2 j fun z => n (i j z)⟩
theorem Ag.set {σ : St} {i : Nat} {u : Option V} : Ag [i] σ (σ.set i u) := ⟨by simp, fun j n => List.getElem?_set_ne fun z => n (by simp [z])⟩
def tN (K : Par) (f : T → Rho → Option Rho) (st : List Nat) : TG := fun v σ H Q => ∃ ρ F fp t A ρ', Sim K F H σ ρ fp ∧ Tmp K F H fp v t A ∧ f t ρ = some ρ' ∧
  ∀ σ' fp', Sim K F H σ' ρ' fp' → (∀ b i, b ∈ fp' i → (∃ j, b ∈ fp j) ∨ b ∈ A) → Ag st σ σ' → Q σ' H
/-- the target takes a tree so -/
abbrev DG (X : Cx) (cls : Str → Addr) (e : Expr) (f : T → Rho → Option Rho) (st : List Nat) : Prop := PG X e (tN (Px X cls) f st)
theorem _root_.L2.PG.imp {X : Cx} {e : Expr} {t t' : TG} (h : PG X e t) (i : ∀ v σ H Q, t' v σ H Q → t v σ H Q) : PG X e t' := ⟨fun pins s σ H v u Q I r q => h.run pins s σ H v u Q I r (i v σ H Q q)⟩
theorem _root_.L2.PGs.imp {X : Cx} {e : List Expr} {t t' : TGs} (h : PGs X e t) (i : ∀ v σ H Q, t' v σ H Q → t v σ H Q) : PGs X e t' := ⟨fun pins s σ H v u Q I r q => h.run pins s σ H v u Q I r (i v σ H Q q)⟩
def setS (i : Nat) (t : T) (ρ : Rho) : Option Rho := if i < ρ.length then some (ρ.set i (some t)) else none
theorem Sim.set {K : Par} {F H : Hp} {σ : St} {ρ : Rho} {fp : Nat → List Addr} {v : V} {t : T} {A : List Addr} (s : Sim K F H σ ρ fp) (m : Tmp K F H fp v t A) {i : Nat} (l : i < ρ.length) :
    Sim K F H (σ.set i (some v)) (ρ.set i (some t)) (fun j => if j = i then A else fp j) := by
  refine ⟨by simpa using s.len, fun j u h => ?_, fun j k n b hb hc => ?_, fun j b h => ?_, fun j b h => ?_, s.sub⟩
  · by_cases c : j = i
    · subst c
      rw [List.getElem?_set_self l] at h
      cases h
      refine ⟨v, by rw [List.getElem?_set_self (by rw [s.len]; exact l)], ?_⟩
      rw [if_pos rfl]; exact m.r
    · rw [List.getElem?_set_ne (Ne.symm c)] at h ⊢
      rw [if_neg c]
      exact s.sl j u h
  · split at hb
    · split at hc
      · rename_i e1 e2; exact n (e1.trans e2.symm)
      · exact m.dj b hb k hc
    · split at hc
      · exact m.dj b hc j hb
      · exact s.dj j k n b hb hc
  · split at h
    · exact m.ff b h
    · exact s.ff j b h
  · split at h
    · exact m.r.live b h
    · exact s.mt j b h
theorem dg_name {i : Nat} (hN : X.N.Nodup) (hi : X.N[i]? = some x) (hx : Loc X.env.scope x) (hf : X.fn x = true ∨ X.env.scope.names.lookup x = some .local) : DG X cls (.Name x pos) (setS i) [i] :=
  (pg_name hN hi hx hf).imp fun v σ H Q q => by
    obtain ⟨ρ, F, fp, t, A, ρ', s, m, f, k⟩ := q
    unfold setS at f
    split at f
    · rename_i l
      cases f
      refine k _ _ (s.set m l) (fun b j h => ?_) Ag.set
      split at h
      · exact .inr h
      · exact .inl ⟨j, h⟩
    · cases f
/-- a list of targets, taken in turn -/
def setAll : List (T → Rho → Option Rho) → List T → Rho → Option Rho
  | [], [], ρ => some ρ
  | f :: fs, t :: ts, ρ => (f t ρ).bind fun ρ' => setAll fs ts ρ'
  | _, _, _ => none
def tNs (K : Par) (fs : List (T → Rho → Option Rho)) (st : List Nat) : TGs := fun vs σ H Q => ∃ ρ F fp ts A ρ', Sim K F H σ ρ fp ∧ RA K F H vs ts A ∧ (∀ b, b ∈ A → ∀ i, b ∉ fp i) ∧ (∀ b, b ∈ A → F b = none) ∧ setAll fs ts ρ = some ρ' ∧
  ∀ σ' fp', Sim K F H σ' ρ' fp' → (∀ b i, b ∈ fp' i → (∃ j, b ∈ fp j) ∨ b ∈ A) → Ag st σ σ' → Q σ' H
def isStarT : Expr → Bool
  | .Starred _ _ => true
  | _ => false
theorem assignEach_cons {e : Expr} {es : List Expr} {env : Env} (h : isStarT e = false) : (assignEach (e :: es) env).map (·.2) = assign e env :: (assignEach es env).map (·.2) := by
  cases e <;> first | rfl | simp [isStarT] at h
theorem assignEach_len {env : Env} : ∀ es : List Expr, (assignEach es env).length = es.length
  | [] => rfl
  | e :: es => by cases e <;> simp [assignEach, assignEach_len es]
inductive DGs (X : Cx) (cls : Str → Addr) : List Expr → List (T → Rho → Option Rho) → List Nat → Prop
  | nil : DGs X cls [] [] []
  | cons {e f st es fs ss} : isStarT e = false → DG X cls e f st → DGs X cls es fs ss → DGs X cls (e :: es) (f :: fs) (st ++ ss)
theorem DGs.pg : ∀ {es : List Expr} {fs : List (T → Rho → Option Rho)} {st : List Nat}, DGs X cls es fs st → PGs X es (tNs (Px X cls) fs st)
  | _, _, _, .nil => pgs_nil.imp fun vs σ H Q q => by
    obtain ⟨ρ, F, fp, ts, A, ρ', s, r, dj, ff, f, k⟩ := q
    cases r with
    | nil =>
      simp only [setAll, Option.some.injEq] at f
      subst f
      exact ⟨rfl, k σ fp s (fun b i h => .inl ⟨i, h⟩) (Ag.refl _ _)⟩
    | cons _ _ _ => simp [setAll] at f
  | _, _, _, .cons (st := st) (ss := ss) hs h hr => (pgs_cons h hr.pg (assignEach_cons hs)).imp fun vs σ H Q q => by
    obtain ⟨ρ, F, fp, ts, A, ρ', s, r, dj, ff, f, k⟩ := q
    cases r with
    | nil => simp [setAll] at f
    | @cons v vs t ts A B r1 r2 n =>
      simp only [setAll, Option.bind_eq_some_iff] at f
      obtain ⟨ρ1, f1, f2⟩ := f
      refine ⟨v, vs, rfl, ρ, F, fp, t, A, ρ1, s, ⟨r1, fun b z => dj b (List.mem_append_left _ z), fun b z => ff b (List.mem_append_left _ z)⟩, f1, fun σ1 fp1 s1 h1 g1 => ?_⟩
      refine ⟨ρ1, F, fp1, ts, B, ρ', s1, r2, fun b z i w => ?_, fun b z => ff b (List.mem_append_right _ z), f2, fun σ2 fp2 s2 h2 g2 => k σ2 fp2 s2 (fun b i w => ?_) (g1.trans g2)⟩
      · rcases h1 b i w with ⟨j, y⟩ | y
        · exact dj b (List.mem_append_right _ z) j y
        · exact n b y z
      · rcases h2 b i w with ⟨j, y⟩ | y
        · rcases h1 b j y with y | y
          · exact .inl y
          · exact .inr (List.mem_append_left _ y)
        · exact .inr (List.mem_append_right _ y)
/-- a tuple taken apart -/
def partsOf : T → Option (List T)
  | .d (.tuple ds) => some (ds.map T.d)
  | .tup ts => some ts
  | _ => none
def setTup (fs : List (T → Rho → Option Rho)) (t : T) (ρ : Rho) : Option Rho := (partsOf t).bind fun ts => setAll fs ts ρ
theorem setAll_len : ∀ {fs : List (T → Rho → Option Rho)} {ts : List T} {ρ ρ' : Rho}, setAll fs ts ρ = some ρ' → ts.length = fs.length
  | [], [], _, _, _ => rfl
  | [], _ :: _, _, _, h => by simp [setAll] at h
  | _ :: _, [], _, _, h => by simp [setAll] at h
  | f :: fs, t :: ts, ρ, ρ', h => by
    simp only [setAll, Option.bind_eq_some_iff] at h
    obtain ⟨_, _, h⟩ := h
    simp [setAll_len h]
theorem DGs.len : ∀ {es : List Expr} {fs : List (T → Rho → Option Rho)} {st : List Nat}, DGs X cls es fs st → es.length = fs.length
  | _, _, _, .nil => rfl
  | _, _, _, .cons _ _ h => by simp [h.len]
theorem DGs.nostar {env : Env} : ∀ {es : List Expr} {fs : List (T → Rho → Option Rho)} {st : List Nat}, DGs X cls es fs st → (assignEach es env).findIdx? (·.1) = none
  | _, _, _, .nil => rfl
  | _, _, _, .cons (e := e) (es := es) hs _ h => by
    have ih := h.nostar (env := env)
    have e1 : ∃ q, assignEach (e :: es) env = (false, q) :: assignEach es env := by
      cases e <;> first | exact ⟨_, rfl⟩ | simp [isStarT] at hs
    obtain ⟨q, e1⟩ := e1
    rw [e1, List.findIdx?_cons]
    simp [ih]
theorem dg_tup {k : Nat} {fs : List (T → Rho → Option Rho)} {st : List Nat} (hc : X.calm = true) (h : DGs X cls es fs st) : DG X cls (.Tuple es k pos) (setTup fs) st :=
  (pg_tup hc h.pg (assignEach_len es) h.nostar).imp fun v σ H Q q => by
    obtain ⟨ρ, F, fp, t, A, ρ', s, m, f, kk⟩ := q
    simp only [setTup, Option.bind_eq_some_iff] at f
    obtain ⟨ts, f1, f2⟩ := f
    have hl := setAll_len f2
    unfold partsOf at f1
    split at f1
    · rename_i ds
      cases f1
      have fz := m.r.fz
      cases fz with
      | tup h1 h2 => exact ⟨_, _, rfl, .of (s.sub _ _ h1), by rw [h2.length, h.len, ← hl]; simp, ρ, F, fp, _, [], ρ', s, RA.dats h2, by simp, by simp, f2, fun σ' fp' s' i g => kk σ' fp' s' (fun b j z => (i b j z).imp id fun w => absurd w (by simp)) g⟩
    · rename_i us
      cases f1
      obtain ⟨r, dj, ff⟩ := m
      cases r with
      | @tup a vs _ A h1 h2 => exact ⟨a, vs, rfl, .of h1, by rw [h2.length, h.len, ← hl], ρ, F, fp, _, A, ρ', s, h2, dj, ff, f2, kk⟩
    · cases f1

/-! ### statements -/
inductive SOut where
  | nx (ρ : Rho)
  | ct (ρ : Rho)
  | rt (t : T) (ρ : Rho)
  | ex (c : Str) (f : Option (Str × T)) (ρ : Rho)
  | bad
  deriving Inhabited
abbrev SG := Rho → SOut
def OutS (K : Par) (W : XW) (st : List Nat) (F H : Hp) (σ : St) (fp : Nat → List Addr) (D : Ends) : SOut → Prop
  | .nx ρ' => ∀ σ' F' H' fp', Sim K F' H' σ' ρ' fp' → Ext F H fp F' H' fp' [] → Ag st σ σ' → D.nx σ' H'
  | .ct ρ' => ∀ σ' F' H' fp', Sim K F' H' σ' ρ' fp' → Ext F H fp F' H' fp' [] → Ag st σ σ' → D.ct σ' H'
  | .rt t ρ' => ∀ v σ' F' H' fp' A, Sim K F' H' σ' ρ' fp' → Tmp K F' H' fp' v t A → Ext F H fp F' H' fp' A → Ag st σ σ' → D.rt v H'
  | .ex c f ρ' => ∀ d σ' F' H' fp' A, Sim K F' H' σ' ρ' fp' → XDict K F' H' fp' d f A → Ext F H fp F' H' fp' A → Ag st σ σ' → W σ' (.ref (K.cls c)) d H'
  | .bad => False
def tS (K : Par) (W : XW) (st : List Nat) (g : SG) : TS := fun D σ H => ∃ ρ F fp, Sim K F H σ ρ fp ∧ OutS K W st F H σ fp D (g ρ)
abbrev DS (X : Cx) (cls : Str → Addr) (W : XW) (s : Stmt) (st : List Nat) (g : SG) : Prop := PS X s (tS (Px X cls) W st g)
abbrev DSs (X : Cx) (cls : Str → Addr) (W : XW) (s : List Stmt) (st : List Nat) (g : SG) : Prop := PSs X s (tS (Px X cls) W st g)
section
variable {K : Par} {F H F1 H1 : Hp} {σ σ1 : St} {fp fp1 : Nat → List Addr} {A : List Addr} {D D' : Ends} {st st' : List Nat}
theorem OutS.shift {o : SOut} (h : OutS K W st F H σ fp D o) (x : Ext F H fp F1 H1 fp1 A) (g : Ag st σ σ1) : OutS K W st F1 H1 σ1 fp1 D o := by
  have tr : ∀ {σ2 : St}, Ag st σ1 σ2 → Ag st σ σ2 := fun g2 => (g.trans g2).mono fun j z => by rcases List.mem_append.mp z with z | z <;> exact z
  cases o with
  | nx ρ' => exact fun σ' F' H' fp' s y g' => h σ' F' H' fp' s (x.trans y) (tr g')
  | ct ρ' => exact fun σ' F' H' fp' s y g' => h σ' F' H' fp' s (x.trans y) (tr g')
  | rt t ρ' => exact fun v σ' F' H' fp' B s m y g' => h v σ' F' H' fp' B s m (x.trans y) (tr g')
  | ex c f ρ' => exact fun d σ' F' H' fp' B s m y g' => h d σ' F' H' fp' B s m (x.trans y) (tr g')
  | bad => exact h
/-- an expression, then a statement's end -/
def Out.s {α : Type} (o : Out α) (f : α → Rho → SOut) : SOut := match o with
  | .ok a ρ => f a ρ
  | .ex c u ρ => .ex c u ρ
  | .bad => .bad
theorem OutS.run {α : Type} {o : Out α} {f : α → Rho → SOut} (h : OutS K W st F H σ fp D (o.s f)) : OutR K W F H σ fp (fun a ρ => OutS K W st F H σ fp D (f a ρ)) o := by
  cases o with
  | ok a ρ => exact h
  | ex c u ρ => exact fun d F' H' fp' A s m x => h d σ F' H' fp' A s m x (Ag.refl _ _)
  | bad => exact h
theorem OutS.mono {o : SOut} (h : OutS K W st F H σ fp D o) (i : ∀ j, j ∈ st' → j ∈ st) (hn : ∀ σ' H', D.nx σ' H' → D'.nx σ' H') (hc : ∀ σ' H', D.ct σ' H' → D'.ct σ' H') (hr : ∀ v H', D.rt v H' → D'.rt v H') : OutS K W st' F H σ fp D' o := by
  cases o with
  | nx ρ' => exact fun σ' F' H' fp' s y g' => hn _ _ (h σ' F' H' fp' s y (g'.mono i))
  | ct ρ' => exact fun σ' F' H' fp' s y g' => hc _ _ (h σ' F' H' fp' s y (g'.mono i))
  | rt t ρ' => exact fun v σ' F' H' fp' B s m y g' => hr _ _ (h v σ' F' H' fp' B s m y (g'.mono i))
  | ex c f ρ' => exact fun d σ' F' H' fp' B s m y g' => h d σ' F' H' fp' B s m y (g'.mono i)
  | bad => exact h
end
variable {s : Stmt} {ss : List Stmt} {st st' : List Nat} {g g' : SG}
def sPass : SG := fun ρ => .nx ρ
def sCont : SG := fun ρ => .ct ρ
def sSeq (g h : SG) : SG := fun ρ => match g ρ with
  | .nx ρ' => h ρ'
  | o => o
def sDrop (g : G T) : SG := fun ρ => (g ρ).s fun _ ρ' => .nx ρ'
def sRet (g : G T) : SG := fun ρ => (g ρ).s fun t ρ' => .rt t ρ'
def sRetN : SG := fun ρ => .rt (.d .none) ρ
def sIf (c : G Bool) (g h : SG) : SG := fun ρ => (c ρ).s fun k ρ' => if k = true then g ρ' else h ρ'
def sSet (i : Nat) (g : G T) : SG := fun ρ => (g ρ).s fun t ρ' => match setS i t ρ' with
  | some ρ2 => .nx ρ2
  | none => .bad
def sAsg (f : T → Rho → Option Rho) (g : G T) : SG := fun ρ => (g ρ).s fun t ρ' => match f t ρ' with
  | some ρ2 => .nx ρ2
  | none => .bad
theorem ds_pass : DS X cls W (.Pass pos) [] sPass := ps_pass.imp fun D σ H q => by
  obtain ⟨ρ, F, fp, s, o⟩ := q
  exact o σ F H fp s (Ext.refl F H fp) (Ag.refl _ _)
theorem ds_cont : DS X cls W (.Continue pos) [] sCont := ps_continue.imp fun D σ H q => by
  obtain ⟨ρ, F, fp, s, o⟩ := q
  exact o σ F H fp s (Ext.refl F H fp) (Ag.refl _ _)
theorem dss_nil : DSs X cls W [] [] sPass := pss_nil.imp fun D σ H q => by
  obtain ⟨ρ, F, fp, s, o⟩ := q
  exact o σ F H fp s (Ext.refl F H fp) (Ag.refl _ _)
theorem dss_cons (h : DS X cls W s st g) (h' : DSs X cls W ss st' g') : DSs X cls W (s :: ss) (st ++ st') (sSeq g g') := (pss_cons h h').imp fun D σ H q => by
  obtain ⟨ρ, F, fp, s, o⟩ := q
  refine ⟨ρ, F, fp, s, ?_⟩
  unfold sSeq at o
  cases c : g ρ with
  | nx ρ' =>
    rw [c] at o
    intro σ1 F1 H1 fp1 s1 x1 g1
    refine ⟨ρ', F1, fp1, s1, ?_⟩
    have o2 : OutS (Px X cls) W (st ++ st') F1 H1 σ1 fp1 D (g' ρ') := o.shift x1 (g1.mono fun j z => List.mem_append_left _ z)
    exact o2.mono (fun j z => List.mem_append_right _ z) (fun _ _ h => h) (fun _ _ h => h) (fun _ _ h => h)
  | ct ρ' => rw [c] at o; exact fun σ' F' H' fp' s y g' => o σ' F' H' fp' s y (g'.mono fun j z => List.mem_append_left _ z)
  | rt t ρ' => rw [c] at o; exact fun v σ' F' H' fp' B s m y g' => o v σ' F' H' fp' B s m y (g'.mono fun j z => List.mem_append_left _ z)
  | ex c' f ρ' => rw [c] at o; exact fun v σ' F' H' fp' B s m y g' => o v σ' F' H' fp' B s m y (g'.mono fun j z => List.mem_append_left _ z)
  | bad => rw [c] at o; exact o
theorem dss_one (h : DS X cls W s st g) : DSs X cls W [s] st g := pss_one h
theorem ds_drop (h : DE X cls W e o) (hs : swapsWith e none pos.line X.env = pure false) : DS X cls W (.Expr e pos) [] (sDrop o.vg) := (ps_expr h.own hs).imp fun D σ H q => by
  obtain ⟨ρ, F, fp, s, q⟩ := q
  exact ⟨ρ, F, fp, s, q.run.imp (Ext.refl F H fp) fun t ρ' _ q v F' H' fp' A s' m x => q σ F' H' fp' s' x.nil (Ag.refl _ _)⟩
theorem ds_ret (h : DE X cls W e o) : DS X cls W (.Return (some e) pos) [] (sRet o.vg) := (ps_ret h.own).imp fun D σ H q => by
  obtain ⟨ρ, F, fp, s, q⟩ := q
  exact ⟨ρ, F, fp, s, q.run.imp (Ext.refl F H fp) fun t ρ' _ q v F' H' fp' A s' m x => q v σ F' H' fp' A s' m x (Ag.refl _ _)⟩
theorem ds_retN : DS X cls W (.Return none pos) [] sRetN := ps_retN.imp fun D σ H q => by
  obtain ⟨ρ, F, fp, s, q⟩ := q
  exact q .non σ F H fp [] s (Tmp.frz .non) (Ext.refl F H fp) (Ag.refl _ _)
theorem ds_if {k : G Bool} {s1 s2 : List Stmt} (hc : DT X cls W c k) (h : DSs X cls W s1 st g) (h' : DSs X cls W s2 st' g') : DS X cls W (.If c s1 s2 pos) (st ++ st') (sIf k g g') := (ps_if hc h h').imp fun D σ H q => by
  obtain ⟨ρ, F, fp, s, q⟩ := q
  refine ⟨ρ, F, fp, s, q.run.imp (Ext.refl F H fp) fun k ρ' _ q F' H' fp' s' x => ?_⟩
  have q := q.shift x (Ag.refl _ _)
  cases k with
  | true => rw [if_pos rfl] at q; refine iteT ?_; exact ⟨ρ', F', fp', s', q.mono (fun j z => List.mem_append_left _ z) (fun _ _ h => h) (fun _ _ h => h) (fun _ _ h => h)⟩
  | false => rw [if_neg (by decide)] at q; refine iteF ?_; exact ⟨ρ', F', fp', s', q.mono (fun j z => List.mem_append_right _ z) (fun _ _ h => h) (fun _ _ h => h) (fun _ _ h => h)⟩
/-- what a target makes of the state, as one goes on -/
theorem Ext.cells {F H F0 H0 : Hp} {fp fp' fp0 : Nat → List Addr} {A : List Addr} (x : Ext F0 H0 fp0 F H fp A) (h : ∀ b i, b ∈ fp' i → (∃ j, b ∈ fp j) ∨ b ∈ A) : Ext F0 H0 fp0 F H fp' [] :=
  ⟨x.keep, x.fsub, x.fnew, fun a z => by
    rcases z with z | ⟨i, z⟩
    · simp at z
    · rcases h a i z with ⟨j, y⟩ | y
      · exact x.own a (.inr ⟨j, y⟩)
      · exact x.own a (.inl y)⟩
theorem asg_ok {K : Par} {f : T → Rho → Option Rho} {D : Ends} {σ : St} {H : Hp} {g : G T} (h : tS K W st (sAsg f g) D σ H) : tG K W g σ H fun v H1 => tN K f st v σ H1 D.nx := by
  obtain ⟨ρ, F, fp, s, q⟩ := h
  refine ⟨ρ, F, fp, s, q.run.imp (Ext.refl F H fp) fun t ρ' _ q v F' H' fp' A s' m x => ?_⟩
  cases c : f t ρ' with
  | none => rw [c] at q; exact q.elim
  | some ρ2 =>
    rw [c] at q
    exact ⟨ρ', F', fp', t, A, ρ2, s', m, c, fun σ2 fp2 s2 i g => q σ2 F' H' fp2 s2 (x.cells i) g⟩
theorem ds_asg {f : T → Rho → Option Rho} (h : DE X cls W e o) (ht : DG X cls tg f st) (hst : isStarT tg = false) (hs : swapsWithSole [tg] e pos.line X.env = pure false) (hw : swappedStores [tg] e X.env = pure none) : DS X cls W (.Assign [tg] e pos) st (sAsg f o.vg) :=
  (ps_asg h.own ht hs hw (assignEach_cons hst)).imp fun D σ H q => asg_ok q
theorem ds_set {i : Nat} {p2 : Pos} (hN : X.N.Nodup) (hi : X.N[i]? = some x) (hx : Loc X.env.scope x) (hf : X.fn x = true ∨ X.env.scope.names.lookup x = some .local) (h : DE X cls W e o) (hs : swapsWith e (some (.Name x p2)) pos.line X.env = pure false) :
    DS X cls W (.Assign [.Name x p2] e pos) [i] (sSet i o.vg) :=
  (ps_set hN hi hx h.own hs hf).imp fun D σ H q => by
    have z := asg_ok (f := setS i) (g := o.vg) (show tS (Px X cls) W [i] (sAsg (setS i) o.vg) D σ H from q)
    refine tO_mono (o := .val o.vg) z fun v H1 z => ?_
    obtain ⟨ρ, F, fp, t, A, ρ', s, m, f, k⟩ := z
    unfold setS at f
    split at f
    · rename_i l
      cases f
      refine k _ _ (s.set m l) (fun b j h => ?_) Ag.set
      split at h
      · exact .inr h
      · exact .inl ⟨j, h⟩
    · cases f

/-! ### for -/
def loopN (item : Nat → Rho → Option T) (fin : Rho → Bool) (tg : T → Rho → Option Rho) (body : SG) : Nat → Nat → SG
  | 0, _, ρ => if fin ρ = true then .nx ρ else .bad
  | n + 1, k, ρ => match item k ρ with
    | none => .bad
    | some t => match tg t ρ with
      | none => .bad
      | some ρ1 => match body ρ1 with
        | .nx ρ2 => loopN item fin tg body n (k + 1) ρ2
        | .ct ρ2 => loopN item fin tg body n (k + 1) ρ2
        | o => o
def disj (xs ys : List Nat) : Bool := xs.all fun i => !ys.contains i
def sFor (st : List Nat) (it : G It0) (tg : T → Rho → Option Rho) (body : SG) : SG := fun ρ => (it ρ).s fun w ρ' => if disj w.ls st = true then loopN w.item w.fin tg body w.n 0 ρ' else .bad
theorem loop_ok {K : Par} {J : It} {w : It0} {Gd : Nat → Hp → Hp → St → (Nat → List Addr) → Prop} {F0 H0 : Hp} {σ0 : St} {fp0 : Nat → List Addr} {D : Ends} {f : T → Rho → Option Rho} {body : SG} (wk : Wk K J w (fun b => (∃ i, b ∈ fp0 i) ∨ H0 b = none) Gd) (hd : disj w.ls (st ++ st') = true)
    {F H : Hp} {σ : St} {ρ : Rho} {fp : Nat → List Addr} (s : Sim K F H σ ρ fp) (x : Ext F0 H0 fp0 F H fp []) (ag : Ag (st ++ st') σ0 σ) (g : Gd 0 F H σ fp) (o : OutS K W (st ++ st') F0 H0 σ0 fp0 D (loopN w.item w.fin f body w.n 0 ρ)) :
    ∃ Wd : Nat → Nat → St → Hp → Prop, (∃ m, Wd 0 m σ H) ∧ ∀ i m σ H, Wd i m σ H →
      (J.stop i H ∧ D.nx σ H) ∨ (J.go i H ∧ ∃ N : St → Hp → Prop, (∀ σ' H', N σ' H' → ∃ m', m' < m ∧ Wd (i + 1) m' σ' H') ∧ ∀ x H', J.yld i H x H' → tN K f st x σ H' fun σ2 H2 => tS K W st' body { D with nx := N, ct := N, bk := D.nx } σ2 H2) := by
  have lsn : ∀ {i : Nat}, i ∈ w.ls → i ∉ st ∧ i ∉ st' := fun {i} h => by
    have := List.all_eq_true.mp hd i h
    simp at this
    exact this
  refine ⟨fun i m σ H => m = w.n - i ∧ i ≤ w.n ∧ ∃ ρ F fp, Sim K F H σ ρ fp ∧ Ext F0 H0 fp0 F H fp [] ∧ Ag (st ++ st') σ0 σ ∧ Gd i F H σ fp ∧ OutS K W (st ++ st') F0 H0 σ0 fp0 D (loopN w.item w.fin f body (w.n - i) i ρ), ⟨w.n, by simp, Nat.zero_le _, ρ, F, fp, s, x, ag, g, by simpa using o⟩, ?_⟩
  rintro i m σ H ⟨rfl, hi, ρ, F, fp, s, x, ag, g, o⟩
  by_cases lt : i < w.n
  · right
    obtain ⟨r, hr⟩ : ∃ r, w.n - i = r + 1 := ⟨w.n - i - 1, by omega⟩
    rw [hr] at o
    simp only [loopN] at o
    cases c : w.item i ρ with
    | none => rw [c] at o; exact o.elim
    | some t =>
      rw [c] at o
      obtain ⟨go, y⟩ := wk.step lt s g c
      refine ⟨go, fun σ' H' => ∃ ρ F fp, Sim K F H' σ' ρ fp ∧ Ext F0 H0 fp0 F H' fp [] ∧ Ag (st ++ st') σ0 σ' ∧ Gd (i + 1) F H' σ' fp ∧ OutS K W (st ++ st') F0 H0 σ0 fp0 D (loopN w.item w.fin f body r (i + 1) ρ), fun σ' H' h => ⟨r, by omega, by omega, lt, ?_⟩, fun v H1 hy => ?_⟩
      · have e : w.n - (i + 1) = r := by omega
        rw [e]; exact h
      obtain ⟨F1, A, ⟨e1, e2, e3, e4⟩, m1, okA, nxt⟩ := y v H1 hy
      have s1 := s.grow e1 e2 e3 e4
      have x1 : Ext F H fp F1 H1 fp [] := Ext.grow e1 e2 e4 fun a z => absurd z (by simp)
      simp only at o
      cases c2 : f t ρ with
      | none => rw [c2] at o; exact o.elim
      | some ρ1 =>
        rw [c2] at o
        simp only at o
        refine ⟨ρ, F1, fp, t, A, ρ1, s1, m1, c2, fun σ2 fp2 s2 h2 g2 => ⟨ρ1, F1, fp2, s2, ?_⟩⟩
        have x01 : Ext F0 H0 fp0 F1 H1 fp2 [] := by
          refine ⟨(x.trans x1).keep, (x.trans x1).fsub, (x.trans x1).fnew, fun b z => ?_⟩
          rcases z with z | ⟨j, z⟩
          · simp at z
          · rcases h2 b j z with y | y
            · exact (x.trans x1).own b (.inr y)
            · exact okA b y
        have ag2 : Ag (st ++ st') σ0 σ2 := (ag.trans g2).mono fun j z => by
          rcases List.mem_append.mp z with z | z
          · exact z
          · (exact List.mem_append_left _ z)
        have gd : Gd (i + 1) F1 H1 σ2 fp2 := nxt fp2 σ2 h2 fun j hj => g2.2 j (lsn hj).1
        have nxt' : ∀ ρ2, OutS K W (st ++ st') F0 H0 σ0 fp0 D (loopN w.item w.fin f body r (i + 1) ρ2) → ∀ σ3 F3 H3 fp3, Sim K F3 H3 σ3 ρ2 fp3 → Ext F1 H1 fp2 F3 H3 fp3 [] → Ag st' σ2 σ3 →
            ∃ ρ F fp, Sim K F H3 σ3 ρ fp ∧ Ext F0 H0 fp0 F H3 fp [] ∧ Ag (st ++ st') σ0 σ3 ∧ Gd (i + 1) F H3 σ3 fp ∧ OutS K W (st ++ st') F0 H0 σ0 fp0 D (loopN w.item w.fin f body r (i + 1) ρ) := fun ρ2 o σ3 F3 H3 fp3 s3 x3 g3 =>
          ⟨ρ2, F3, fp3, s3, x01.trans x3, (ag2.trans g3).mono fun j z => by
            rcases List.mem_append.mp z with z | z
            · exact z
            · exact List.mem_append_right _ z, wk.on gd s2 s3 x3 fun j hj => g3.2 j (lsn hj).2, o⟩
        cases c3 : body ρ1 with
        | nx ρ2 => rw [c3] at o; exact nxt' ρ2 o
        | ct ρ2 => rw [c3] at o; exact nxt' ρ2 o
        | rt t2 ρ2 =>
          rw [c3] at o
          exact fun v σ' F' H' fp' B s m y g' => o.shift x01 ag2 v σ' F' H' fp' B s m y (g'.mono fun j z => List.mem_append_right _ z)
        | ex c' u ρ2 =>
          rw [c3] at o
          exact fun v σ' F' H' fp' B s m y g' => o.shift x01 ag2 v σ' F' H' fp' B s m y (g'.mono fun j z => List.mem_append_right _ z)
        | bad => rw [c3] at o; exact o
  · left
    have e : i = w.n := by omega
    subst e
    simp only [Nat.sub_self, loopN] at o
    split at o
    · rename_i hf
      exact ⟨wk.stop s g hf, o σ F H fp s x ag⟩
    · exact o.elim
end
end Hu
set_option Elab.async false
set_option linter.all false
set_option maxRecDepth 100000
/-! HuK: for, while, comprehensions. -/
namespace Hu
open PySem L2
section
variable {X : Cx} {cls : Str → Addr} {W : XW} {e a b c tg iter : Expr} {pos : Pos} {oa ob oc o : Opd} {x : Str} {p : Pos} {st st' : List Nat} {g g' : SG} {body : List Stmt}
theorem ds_for {it : G It0} {f : T → Rho → Option Rho} (hp : PassesOwn (model X.prog X.w) X.A X.env X.xe) (hc : X.calm = true) (hi : DI X cls W tg iter it) (hg : DG X cls tg f st) (hb : DSs X cls W body st' g)
    (hs : ∀ x, foldedSetIterable iter X.env x = pure x) : DS X cls W (.For tg iter body [] pos) (st ++ st') (sFor (st ++ st') it f g) :=
  (ps_for hp hc hi hg hb hs).imp fun D σ H q => by
    obtain ⟨ρ, F, fp, s, q⟩ := q
    refine ⟨ρ, F, fp, s, OutR.imp (OutS.run q) (Ext.refl F H fp) fun w ρ' _ q J F' H' fp' Gd s' x wk g0 => ?_⟩
    obtain ⟨A, x⟩ := x
    split at q
    · rename_i hd
      exact loop_ok wk hd s' x.nil (Ag.refl _ _) g0 q
    · exact q.elim

/-! ### while -/
def whileN (c : G Bool) (body : SG) : Nat → SG
  | 0, _ => .bad
  | n + 1, ρ => (c ρ).s fun k ρ1 => if k = true then match body ρ1 with
      | .nx ρ2 => whileN c body n ρ2
      | .ct ρ2 => whileN c body n ρ2
      | o => o
    else .nx ρ1
def isBad : SOut → Bool
  | .bad => true
  | _ => false
theorem whileN_mono {c : G Bool} {body : SG} : ∀ {n : Nat} {ρ : Rho}, isBad (whileN c body n ρ) = false → ∀ m, whileN c body (n + m) ρ = whileN c body n ρ
  | 0, ρ, h, m => by simp [whileN, isBad] at h
  | n + 1, ρ, h, m => by
    rw [show n + 1 + m = (n + m) + 1 by omega]
    simp only [whileN] at h ⊢
    cases q : c ρ with
    | ex _ _ _ => rfl
    | bad => rfl
    | ok k ρ1 =>
      rw [q] at h
      simp only [Out.s] at h ⊢
      cases k with
      | false => rfl
      | true =>
        simp only [if_true] at h ⊢
        cases q2 : body ρ1 with
        | nx ρ2 => rw [q2] at h; exact whileN_mono h m
        | ct ρ2 => rw [q2] at h; exact whileN_mono h m
        | rt _ _ => rfl
        | ex _ _ _ => rfl
        | bad => rfl
open Classical in
noncomputable def sWhile (c : G Bool) (body : SG) : SG := fun ρ => if h : ∃ n, isBad (whileN c body n ρ) = false then whileN c body (choose h) ρ else .bad
theorem sWhile_eq {c : G Bool} {body : SG} {n : Nat} {ρ : Rho} (h : isBad (whileN c body n ρ) = false) : sWhile c body ρ = whileN c body n ρ := by
  have ex : ∃ n, isBad (whileN c body n ρ) = false := ⟨n, h⟩
  unfold sWhile
  rw [dif_pos ex]
  have h2 := Classical.choose_spec ex
  have e1 := whileN_mono h (Classical.choose ex)
  have e2 := whileN_mono h2 n
  rw [← e1, Nat.add_comm, e2]
theorem sWhile_out {c : G Bool} {body : SG} {ρ : Rho} {K : Par} {F H : Hp} {σ : St} {fp : Nat → List Addr} {D : Ends} (o : OutS K W st F H σ fp D (sWhile c body ρ)) : ∃ n, OutS K W st F H σ fp D (whileN c body n ρ) := by
  unfold sWhile at o
  split at o
  · exact ⟨_, o⟩
  · exact o.elim
theorem OutS.part {K : Par} {F H : Hp} {σ : St} {fp : Nat → List Addr} {D D' : Ends} {o : SOut} (h : OutS K W st F H σ fp D o) (i : ∀ j, j ∈ st' → j ∈ st) (hr : D.rt = D'.rt) (hn : ∀ ρ, o ≠ .nx ρ) (hc : ∀ ρ, o ≠ .ct ρ) : OutS K W st' F H σ fp D' o := by
  cases o with
  | nx ρ' => exact absurd rfl (hn ρ')
  | ct ρ' => exact absurd rfl (hc ρ')
  | rt t ρ' => exact fun v σ' F' H' fp' B s m y g' => hr ▸ (h v σ' F' H' fp' B s m y (g'.mono i))
  | ex c f ρ' => exact fun d σ' F' H' fp' B s m y g' => h d σ' F' H' fp' B s m y (g'.mono i)
  | bad => exact h
theorem ds_while {k : G Bool} (hp : PassesOwn (model X.prog X.w) X.A X.env X.xe) (hc : DT X cls W c k) (hb : DSs X cls W body st g) : DS X cls W (.While c body [] pos) st (sWhile k g) :=
  (ps_while hp hc hb).imp fun D σ H q => by
    obtain ⟨ρ, F, fp, s, q⟩ := q
    obtain ⟨n, q⟩ := sWhile_out q
    refine ⟨fun m σ1 H1 => ∃ ρ1 F1 fp1, Sim (Px X cls) F1 H1 σ1 ρ1 fp1 ∧ Ext F H fp F1 H1 fp1 [] ∧ Ag st σ σ1 ∧ OutS (Px X cls) W st F H σ fp D (whileN k g m ρ1), ⟨n, ρ, F, fp, s, Ext.refl F H fp, Ag.refl _ _, q⟩, ?_⟩
    rintro m σ1 H1 ⟨ρ1, F1, fp1, s1, x1, g1, q⟩
    have tr : ∀ {σ2 : St}, Ag st σ1 σ2 → Ag st σ σ2 := fun g2 => (g1.trans g2).mono fun j z => by rcases List.mem_append.mp z with z | z <;> exact z
    cases m with
    | zero => exact q.elim
    | succ m =>
      simp only [whileN] at q
      refine ⟨ρ1, F1, fp1, s1, OutR.imp (OutS.run (q.shift x1 g1)) (Ext.refl F1 H1 fp1) fun kk ρ2 hk q2 F2 H2 fp2 s2 x2 => ?_⟩
      rw [hk] at q
      simp only [Out.s] at q
      cases kk with
      | false =>
        simp only [Bool.false_eq_true, if_false] at q
        exact iteF (q σ1 F2 H2 fp2 s2 (x1.trans x2) g1)
      | true =>
        simp only [if_true] at q
        refine iteT ⟨fun σ3 H3 => ∃ ρ3 F3 fp3, Sim (Px X cls) F3 H3 σ3 ρ3 fp3 ∧ Ext F H fp F3 H3 fp3 [] ∧ Ag st σ σ3 ∧ OutS (Px X cls) W st F H σ fp D (whileN k g m ρ3), fun σ' H' h => ⟨m, Nat.lt_succ_self m, h⟩, ρ2, F2, fp2, s2, ?_⟩
        cases c3 : g ρ2 with
        | nx ρ3 => rw [c3] at q; exact fun σ3 F3 H3 fp3 s3 x3 g3 => ⟨ρ3, F3, fp3, s3, (x1.trans x2).trans x3, tr g3, q⟩
        | ct ρ3 => rw [c3] at q; exact fun σ3 F3 H3 fp3 s3 x3 g3 => ⟨ρ3, F3, fp3, s3, (x1.trans x2).trans x3, tr g3, q⟩
        | rt t3 ρ3 => rw [c3] at q; exact OutS.part (q.shift (x1.trans x2) g1) (fun _ z => z) rfl (fun _ z => by cases z) (fun _ z => by cases z)
        | ex c' u ρ3 => rw [c3] at q; exact OutS.part (q.shift (x1.trans x2) g1) (fun _ z => z) rfl (fun _ z => by cases z) (fun _ z => by cases z)
        | bad => rw [c3] at q; exact q.elim
end
end Hu
set_option Elab.async false
set_option linter.all false
set_option maxRecDepth 100000
/-! HuL: list comprehensions. -/
namespace Hu
open PySem L2
theorem wipe_get (σ : St) (j : Nat) : ∀ vs : List Nat, (wipe σ vs)[j]? = if j ∈ vs then (if j < σ.length then some none else none) else σ[j]?
  | [] => by simp [wipe]
  | v :: vs => by
    simp only [wipe]
    by_cases c : v = j
    · subst c
      rw [List.getElem?_set, if_pos rfl]
      simp [wipe_length]
    · rw [List.getElem?_set_ne c, wipe_get σ j vs]
      have : (j ∈ v :: vs) ↔ j ∈ vs := by simp [Ne.symm c]
      by_cases d : j ∈ vs
      · rw [if_pos d, if_pos (this.mpr d)]
      · rw [if_neg d, if_neg (fun z => d (this.mp z))]
theorem wipe_eq {σ σ' : St} {vs : List Nat} (hl : σ'.length = σ.length) (h : ∀ j, j ∉ vs → σ'[j]? = σ[j]?) : wipe σ' vs = wipe σ vs := by
  apply List.ext_getElem?
  intro j
  rw [wipe_get, wipe_get, hl]
  by_cases d : j ∈ vs
  · rw [if_pos d, if_pos d]
  · rw [if_neg d, if_neg d, h j d]
def wipeR (ρ : Rho) : List Nat → Rho
  | [] => ρ
  | v :: vs => (wipeR ρ vs).set v none
theorem wipeR_len (ρ : Rho) : ∀ vs, (wipeR ρ vs).length = ρ.length
  | [] => rfl
  | v :: vs => by simp [wipeR, wipeR_len ρ vs]
theorem wipeR_get (ρ : Rho) (j : Nat) (t : T) : ∀ {vs : List Nat}, (wipeR ρ vs)[j]? = some (some t) → ρ[j]? = some (some t) ∧ j ∉ vs
  | [], h => ⟨h, by simp⟩
  | v :: vs, h => by
    simp only [wipeR] at h
    by_cases c : v = j
    · subst c
      rw [List.getElem?_set, if_pos rfl] at h
      split at h <;> cases h
    · rw [List.getElem?_set_ne c] at h
      obtain ⟨h1, h2⟩ := wipeR_get ρ j t h
      exact ⟨h1, by simp only [List.mem_cons, not_or]; exact ⟨Ne.symm c, h2⟩⟩
section
variable {K : Par} {F H : Hp} {σ : St} {ρ : Rho} {fp : Nat → List Addr}
theorem Sim.wiped (s : Sim K F H σ ρ fp) (vs : List Nat) : Sim K F H (wipe σ vs) (wipeR ρ vs) fp := by
  refine ⟨by rw [wipe_length, wipeR_len, s.len], fun i t h => ?_, s.dj, s.ff, s.mt, s.sub⟩
  obtain ⟨h1, h2⟩ := wipeR_get ρ i t h
  obtain ⟨v, e, r⟩ := s.sl i t h1
  exact ⟨v, by rw [wipe_get, if_neg h2]; exact e, r⟩
/-- a made thing as one more slot -/
def plusF (fp : Nat → List Addr) (N : Nat) (B : List Addr) : Nat → List Addr := fun j => if j = N then fp j ++ B else fp j
theorem mem_plus {N : Nat} {B : List Addr} {j : Nat} {a : Addr} : a ∈ plusF fp N B j ↔ a ∈ fp j ∨ (j = N ∧ a ∈ B) := by
  unfold plusF
  by_cases c : j = N
  · rw [if_pos c]; simp [c]
  · rw [if_neg c]; simp [c]
theorem Sim.plus (s : Sim K F H σ ρ fp) {v : V} {t : T} {B : List Addr} (m : Tmp K F H fp v t B) {N : Nat} (hN : σ.length ≤ N) : Sim K F H σ ρ (plusF fp N B) := by
  refine ⟨s.len, fun i t h => ?_, fun i j n a ha hb => ?_, fun j a h => ?_, fun j a h => ?_, s.sub⟩
  · have l : i < ρ.length := (List.getElem?_eq_some_iff.mp h).1
    obtain ⟨v, e, r⟩ := s.sl i t h
    refine ⟨v, e, ?_⟩
    unfold plusF
    rw [if_neg (by have := s.len; omega)]; exact r
  · rcases mem_plus.mp ha with ha | ⟨e1, ha⟩
    · rcases mem_plus.mp hb with hb | ⟨e2, hb⟩
      · exact s.dj i j n a ha hb
      · exact m.dj a hb i ha
    · rcases mem_plus.mp hb with hb | ⟨e2, hb⟩
      · exact m.dj a ha j hb
      · exact n (e1.trans e2.symm)
  · rcases mem_plus.mp h with h | ⟨_, h⟩
    · exact s.ff j a h
    · exact m.ff a h
  · rcases mem_plus.mp h with h | ⟨_, h⟩
    · exact s.mt j a h
    · exact m.r.live a h
theorem Ext.plus {F' H' : Hp} {fp' : Nat → List Addr} {B B' C : List Addr} {N : Nat} (x : Ext F H fp F' H' fp' C) (h : ∀ a, a ∈ B' → a ∈ B ∨ a ∈ C) : Ext F H (plusF fp N B) F' H' (plusF fp' N B') [] :=
  ⟨fun a o e n => x.keep a o e fun i z => n i (mem_plus.mpr (.inl z)), x.fsub, fun a o e => by
    rcases x.fnew a o e with z | z | z | ⟨i, z⟩
    · exact .inl z
    · exact .inr (.inl z)
    · exact .inr (.inr (.inl z))
    · exact .inr (.inr (.inr ⟨i, mem_plus.mpr (.inl z)⟩)), fun a z => by
    have up : ((∃ i, a ∈ fp i) ∨ H a = none) → (∃ i, a ∈ plusF fp N B i) ∨ H a = none := fun q => by
      rcases q with ⟨i, q⟩ | q
      · exact .inl ⟨i, mem_plus.mpr (.inl q)⟩
      · exact .inr q
    rcases z with z | ⟨i, z⟩
    · simp at z
    · rcases mem_plus.mp z with z | ⟨_, z⟩
      · exact up (x.own a (.inr ⟨i, z⟩))
      · rcases h a z with z | z
        · exact .inl ⟨N, mem_plus.mpr (.inr ⟨rfl, z⟩)⟩
        · exact up (x.own a (.inl z))⟩
/-- an owned cell is written -/
theorem Ext.poke {F' H' : Hp} {fp' : Nat → List Addr} {C : List Addr} {D : Addr} {o : HO} (x : Ext F H fp F' H' fp' C) (h : (∃ i, D ∈ fp i) ∨ H D = none) : Ext F H fp F' (upd H' D o) fp' C :=
  ⟨fun a u e n => by
    have : a ≠ D := fun c => by
      subst c
      rcases h with ⟨i, h⟩ | h
      · exact n i h
      · rw [h] at e; cases e
    rw [upd_ne this]; exact x.keep a u e n, x.fsub, x.fnew, x.own⟩
theorem Sim.ghost (s : Sim K F H σ ρ fp) {vs : List Nat} {σ0 : St} {ρ0 : Rho} (hl : σ0.length = σ.length) (hr : ρ0.length = ρ.length) (hw : ∀ j, j ∉ vs → σ0[j]? = σ[j]?) (hρ : ∀ j t, ρ0[j]? = some (some t) → (j ∉ vs ∧ ρ[j]? = some (some t)) ∨ (j ∈ vs ∧ ∃ x v, t = .d x ∧ σ0[j]? = some (some v) ∧ Fz K F v x)) :
    Sim K F H σ0 ρ0 (fun j => if j ∈ vs then [] else fp j) := by
  refine ⟨by rw [hl, hr, s.len], fun i t h => ?_, fun i j n a ha hb => ?_, fun j a h => ?_, fun j a h => ?_, s.sub⟩
  · rcases hρ i t h with ⟨n, e⟩ | ⟨m, x, v, rfl, e, f⟩
    · obtain ⟨v, e2, r⟩ := s.sl i t e
      exact ⟨v, by rw [hw i n]; exact e2, by rw [if_neg n]; exact r⟩
    · exact ⟨v, e, by rw [if_pos m]; exact .d f⟩
  · split at ha
    · simp at ha
    · split at hb
      · simp at hb
      · exact s.dj i j n a ha hb
  · split at h
    · simp at h
    · exact s.ff j a h
  · split at h
    · simp at h
    · exact s.mt j a h
end
def backR (ρ0 ρ : Rho) (vs : List Nat) : Rho := ρ.mapIdx fun j u => if j ∈ vs then (match getS ρ0 j with
  | some (.d x) => some (.d x)
  | _ => none) else u
theorem backR_get {ρ0 ρ : Rho} {vs : List Nat} {j : Nat} {t : T} (h : (backR ρ0 ρ vs)[j]? = some (some t)) : (j ∉ vs ∧ ρ[j]? = some (some t)) ∨ (j ∈ vs ∧ ∃ x, t = .d x ∧ ρ0[j]? = some (some (.d x))) := by
  unfold backR at h
  rw [List.getElem?_mapIdx] at h
  cases q : ρ[j]? with
  | none => rw [q] at h; simp at h
  | some u =>
    rw [q] at h
    simp only [Option.map_some, Option.some.injEq] at h
    by_cases d : j ∈ vs
    · rw [if_pos d] at h
      right
      refine ⟨d, ?_⟩
      split at h
      · rename_i x e
        cases h
        exact ⟨x, rfl, getS_some e⟩
      · cases h
    · rw [if_neg d] at h
      exact .inl ⟨d, by rw [h]⟩

section
variable {X : Cx} {cls : Str → Addr} {elt c tg iter : Expr} {ifs : List Expr} {pos : Pos} {o : Opd} {st : List Nat} {scope : Scope}
abbrev Wno : XW := fun _ _ _ _ => False
abbrev DTs (X : Cx) (cls : Str → Addr) (es : List Expr) (g : G Bool) : Prop := PTs X es (tT (Px X cls) Wno g)
theorem _root_.L2.PTs.imp {X : Cx} {e : List Expr} {t t' : TT} (h : PTs X e t) (i : ∀ σ H Q, t' σ H Q → t σ H Q) : PTs X e t' := ⟨fun pins s σ H Q I q => h.run pins s σ H Q I (i σ H Q q)⟩
def gYes : G Bool := fun ρ => .ok true ρ
theorem dts_nil : DTs X cls [] gYes := pts_nil.imp fun σ H Q q => by
  obtain ⟨ρ, F, fp, s, q⟩ := q
  exact q F H fp s (Ext.refl F H fp)
theorem dts_one {g : G Bool} (h : DT X cls Wno c g) : DTs X cls [c] g := pts_one h
def lcN (item : Nat → Rho → Option T) (fin : Rho → Bool) (f : T → Rho → Option Rho) (vs : List Nat) (test : G Bool) (elt : G T) : Nat → Nat → List T → Rho → Option (List T × Rho)
  | 0, _, acc, ρ => if fin ρ = true then some (acc, ρ) else none
  | n + 1, k, acc, ρ => match item k ρ with
    | none => none
    | some t => match f t ρ with
      | none => none
      | some ρ1 => match test ρ1 with
        | .ok true ρ2 => match elt ρ2 with
          | .ok y ρ3 => if acc.length < sizeLine then lcN item fin f vs test elt n (k + 1) (acc ++ [y]) (wipeR ρ3 vs) else none
          | _ => none
        | .ok false ρ2 => lcN item fin f vs test elt n (k + 1) acc (wipeR ρ2 vs)
        | _ => none
def gLc (vs : List Nat) (it : G It0) (f : T → Rho → Option Rho) (test : G Bool) (elt : G T) : G T := fun ρ => (it ρ).bind fun w ρ1 => if disj w.ls vs = true then match lcN w.item w.fin f vs test elt w.n 0 [] (wipeR ρ1 vs) with
  | some (ts, ρ2) => .ok (.lst ts) (backR ρ1 ρ2 vs)
  | none => .bad
  else .bad
theorem RA.append {K : Par} {F H : Hp} : ∀ {vs : List V} {ts : List T} {A : List Addr} {v : V} {t : T} {B : List Addr}, RA K F H vs ts A → R K F H v t B → (∀ a, a ∈ A → a ∉ B) → RA K F H (vs ++ [v]) (ts ++ [t]) (A ++ B)
  | _, _, _, v, t, B, .nil, r, _ => by
    have := RA.cons r .nil (by simp)
    simpa using this
  | _, _, _, v, t, B, .cons (A := A1) (B := A2) r1 r2 n, r, d => by
    have := RA.cons r1 (RA.append r2 r fun a z => d a (List.mem_append_right _ z)) fun a z w => by
      rcases List.mem_append.mp w with w | w
      · exact n a z w
      · exact d a (List.mem_append_left _ z) w
    simpa using this
/-- an item appended to a made list -/
theorem Tmp.push {K : Par} {F H : Hp} {fp : Nat → List Addr} {σ : St} {ρ : Rho} {D : Addr} {ts : List T} {B C : List Addr} {y : V} {t : T} (s : Sim K F H σ ρ fp) (m : Tmp K F H fp (.ref D) (.lst ts) B) (my : Tmp K F H fp y t C) (nb : ∀ a, a ∈ B → a ∉ C) :
    ∃ acc, H D = some (.lst acc) ∧ acc.length = ts.length ∧ D ∈ B ∧ Sim K F (upd H D (.lst (acc ++ [y]))) σ ρ fp ∧ Tmp K F (upd H D (.lst (acc ++ [y]))) fp (.ref D) (.lst (ts ++ [t])) (B ++ C) := by
  obtain ⟨r, dj, ff⟩ := m
  cases r with
  | @lst _ acc _ A h1 h2 n =>
    have dn : D ∈ D :: A := List.mem_cons_self
    have dC : D ∉ C := nb D dn
    have tu : TupSub H (upd H D (.lst (acc ++ [y]))) := fun a xs h => by
      by_cases c : a = D
      · subst c; rw [h1] at h; cases h
      · rw [upd_ne c]; exact h
    have stay : ∀ {E : List Addr}, D ∉ E → ∀ a, a ∈ E → (upd H D (.lst (acc ++ [y]))) a = H a := fun ne a h => upd_ne (fun e => ne (e ▸ h))
    refine ⟨acc, h1, h2.length, dn, ⟨s.len, fun i t h => ?_, s.dj, s.ff, fun i a h => ?_, fun a o h => ?_⟩, ⟨?_, fun a h => ?_, fun a h => ?_⟩⟩
    · obtain ⟨v, e, r⟩ := s.sl i t h
      exact ⟨v, e, r.frame (Same.refl F) tu (stay (dj D dn i))⟩
    · obtain ⟨o, e, q⟩ := s.mt i a h
      exact ⟨o, by rw [stay (dj D dn i) a h]; exact e, q⟩
    · have : a ≠ D := fun e => by subst e; rw [ff a dn] at h; cases h
      rw [upd_ne this]; exact s.sub a o h
    · exact .lst upd_same (RA.append (h2.frame (Same.refl F) tu (stay n)) (my.r.frame (Same.refl F) tu (stay dC)) fun a h => nb a (List.mem_cons_of_mem _ h)) (by simp [n, dC])
    · (rcases List.mem_append.mp h with h | h)
      · exact dj a h
      · exact my.dj a h
    · (rcases List.mem_append.mp h with h | h)
      · exact ff a h
      · exact my.ff a h
theorem Ext.less {F H F' H' : Hp} {fp fp' fp2 : Nat → List Addr} {A : List Addr} (x : Ext F H fp F' H' fp' A) (h : ∀ a i, a ∈ fp2 i → ∃ j, a ∈ fp' j) : Ext F H fp F' H' fp2 A :=
  ⟨x.keep, x.fsub, x.fnew, fun a z => by
    rcases z with z | ⟨i, z⟩
    · exact x.own a (.inl z)
    · exact x.own a (.inr (h a i z))⟩
theorem lc_ok {K : Par} {J : It} {w : It0} {Gd : Nat → Hp → Hp → St → (Nat → List Addr) → Prop} {F0 H0 : Hp} {σ : St} {fp0 : Nat → List Addr} {f : T → Rho → Option Rho} {test : G Bool} {elt : G T} {vs : List Nat}
    (wk : Wk K J w (fun b => (∃ i, b ∈ fp0 i) ∨ H0 b = none) Gd) (hd : disj w.ls vs = true) (hst : ∀ j, j ∈ st → j ∈ vs) {F1 H1 : Hp} {ρ1 : Rho} {fp1 : Nat → List Addr} (s : Sim K F1 H1 σ ρ1 fp1) (x : Ext F0 H0 fp0 F1 H1 fp1 []) (g : Gd 0 F1 H1 σ fp1) {us : List T} {ρe : Rho}
    (o : lcN w.item w.fin f vs test elt w.n 0 [] (wipeR ρ1 vs) = some (us, ρe)) {Q : VK} (q : Post K F0 H0 σ fp0 Q (.lst us) (backR ρ1 ρe vs)) {D : Addr} (hD : H1 D = none) :
    ∃ Wd : Nat → Nat → Hp → Prop, (∃ m, Wd 0 m (upd H1 D (.lst []))) ∧ ∀ i m H, Wd i m H → (J.stop i H ∧ Q (.ref D) H) ∨ (J.go i H ∧ ∃ Nx : Hp → Prop, (∀ H', Nx H' → ∃ m', m' < m ∧ Wd (i + 1) m' H') ∧
      ∀ x H', J.yld i H x H' → tN K f st x (wipe σ vs) H' fun σ2 H2 => wipe σ2 vs = wipe σ vs ∧ tT K Wno test σ2 H2 fun b H3 => if b = true then tG K Wno elt σ2 H3 fun y H4 => ∃ acc, H4 D = some (.lst acc) ∧ acc.length < sizeLine ∧ Nx (upd H4 D (.lst (acc ++ [y]))) else Nx H3) := by
  have s1 := s
  have lsn : ∀ {i : Nat}, i ∈ w.ls → i ∉ vs := fun {i} h => by
    have := List.all_eq_true.mp hd i h
    simpa using this
  have hD0 : (∃ i, D ∈ fp0 i) ∨ H0 D = none := by
    cases c : H0 D with
    | none => exact .inr rfl
    | some u =>
      by_cases e : ∃ i, D ∈ fp0 i
      · exact .inl e
      · have := x.keep D u c fun i z => e ⟨i, z⟩
        rw [hD] at this; cases this
  let I : Nat → Hp → Prop := fun i H => ∃ ρ F fp ts B, Sim K F H (wipe σ vs) ρ fp ∧ Ext F0 H0 fp0 F H fp B ∧ Tmp K F H fp (.ref D) (.lst ts) B ∧ Same F1 F ∧ D ∈ B ∧ Gd i F H (wipe σ vs) (plusF fp σ.length B) ∧ lcN w.item w.fin f vs test elt (w.n - i) i ts ρ = some (us, ρe)
  refine ⟨fun i m H => m = w.n - i ∧ i ≤ w.n ∧ I i H, ⟨w.n, by simp, Nat.zero_le _, wipeR ρ1 vs, F1, fp1, [], [D], ?_⟩, ?_⟩
  · have s2 : Sim K F1 (upd H1 D (.lst [])) σ ρ1 fp1 := s.laid hD
    have m2 : Tmp K F1 (upd H1 D (.lst [])) fp1 (.ref D) (.lst []) [D] := ⟨.lst upd_same .nil (by simp), fun a h i z => by
      have := List.mem_singleton.mp h
      subst this
      exact live_ne (s.mt i) hD z, fun a h => by
      have := List.mem_singleton.mp h
      subst this
      exact s.sub.free hD⟩
    have x2 : Ext F1 H1 fp1 F1 (upd H1 D (.lst [])) fp1 [D] := Ext.laid hD (by simpa using hD)
    refine ⟨s2.wiped vs, (x.trans x2).more fun a h => .inl h, m2, Same.refl F1, by simp, ?_, by simpa using o⟩
    have pw : Sim K F1 (upd H1 D (.lst [])) (wipe σ vs) (wipeR ρ1 vs) (plusF fp1 σ.length [D]) := (s2.wiped vs).plus m2 (by rw [wipe_length]; exact Nat.le_refl _)
    refine wk.on g s pw ⟨x2.keep, x2.fsub, x2.fnew, fun a z => ?_⟩ fun j hj => by rw [wipe_get, if_neg (lsn hj)]
    rcases z with z | ⟨i, z⟩
    · simp at z
    · rcases mem_plus.mp z with z | ⟨_, z⟩
      · exact .inl ⟨i, z⟩
      · have := List.mem_singleton.mp z
        subst this; exact .inr hD
  · rintro i m H ⟨rfl, hi, ρ, F, fp, ts, B, s, x, mB, hF, hDB, g, o⟩
    have sp := s.plus mB (N := σ.length) (by rw [wipe_length]; exact Nat.le_refl _)
    by_cases lt : i < w.n
    · right
      obtain ⟨r, hr⟩ : ∃ r, w.n - i = r + 1 := ⟨w.n - i - 1, by omega⟩
      have hr' : w.n - (i + 1) = r := by omega
      rw [hr] at o
      simp only [lcN] at o
      cases c : w.item i ρ with
      | none => rw [c] at o; cases o
      | some t =>
      rw [c] at o
      simp only at o
      cases c2 : f t ρ with
      | none => rw [c2] at o; cases o
      | some ρf =>
      rw [c2] at o
      simp only at o
      obtain ⟨go, y⟩ := wk.step lt sp g c
      refine ⟨go, I (i + 1), fun H' h => ⟨r, by omega, hr'.symm, lt, h⟩, fun v Hy hy => ?_⟩
      obtain ⟨F2, A2, ⟨e1, e2, e3, e4⟩, m2, okA, nxt⟩ := y v Hy hy
      have s2 := s.grow e1 e2 e3 e4
      have x2 : Ext F H fp F2 Hy fp [] := Ext.grow e1 e2 e4 fun a z => absurd z (by simp)
      have mB2 := (mB.on s x2 s2).1
      refine ⟨ρ, F2, fp, t, A2, ρf, s2, ⟨m2.r, fun a h i z => m2.dj a h i (mem_plus.mpr (.inl z)), m2.ff⟩, c2, fun σ3 fp3 s3 c3 g3 => ?_⟩
      have hl3 : σ3.length = σ.length := g3.1.trans (wipe_length σ vs)
      have weq : wipe σ3 vs = wipe σ vs := wipe_eq hl3 fun j hj => by
        rw [g3.2 j (fun z => hj (hst j z)), wipe_get, if_neg hj]
      refine ⟨weq, ?_⟩
      have x03 : Ext F0 H0 fp0 F2 Hy fp3 B := by
        have z := x.trans x2
        refine ⟨z.keep, z.fsub, z.fnew, fun a h => ?_⟩
        rcases h with h | ⟨i, h⟩
        · exact x.own a (.inl h)
        · rcases c3 a i h with h | h
          · exact x.own a (.inr h)
          · exact okA a h
      have m3 : Tmp K F2 Hy fp3 (.ref D) (.lst ts) B := ⟨mB2.r, fun a h i z => by
        rcases c3 a i z with ⟨j, z⟩ | z
        · exact mB.dj a h j z
        · exact m2.dj a z σ.length (mem_plus.mpr (.inr ⟨rfl, h⟩)), mB2.ff⟩
      have s3p := s3.plus m3 (N := σ.length) (by rw [hl3]; exact Nat.le_refl _)
      have gd3 : Gd (i + 1) F2 Hy σ3 (plusF fp3 σ.length B) := nxt _ σ3 (fun b i h => by
        rcases mem_plus.mp h with h | ⟨_, h⟩
        · rcases c3 b i h with ⟨j, z⟩ | z
          · exact .inl ⟨j, mem_plus.mpr (.inl z)⟩
          · exact .inr z
        · exact .inl ⟨σ.length, mem_plus.mpr (.inr ⟨rfl, h⟩)⟩) fun j hj => g3.2 j fun z => lsn hj (hst j z)
      have lsw : ∀ j, j ∈ w.ls → (wipe σ vs)[j]? = σ3[j]? := fun j hj => by
        rw [← weq, wipe_get, if_neg (lsn hj)]
      cases c4 : test ρf with
      | bad => rw [c4] at o; cases o
      | ex _ _ _ => rw [c4] at o; cases o
      | ok k ρ2 =>
      rw [c4] at o
      refine ⟨ρf, F2, fp3, s3, ?_⟩
      rw [c4]
      intro F4 H4 fp4 s4 x4
      have m4 := (m3.on s3 x4 s4).1
      cases k with
      | false =>
        simp only at o
        refine iteF ⟨wipeR ρ2 vs, F4, fp4, ts, B, weq ▸ s4.wiped vs, (x03.trans x4).more fun a h => .inr (x03.own a (.inl h)), m4, fun a o h => x4.fsub a o (e2 a o (hF a o h)), hDB, ?_, by rw [hr']; exact o⟩
        exact wk.on gd3 s3p ((weq ▸ s4.wiped vs : Sim K F4 H4 (wipe σ vs) (wipeR ρ2 vs) fp4).plus m4 (by rw [wipe_length]; exact Nat.le_refl _)) (x4.plus fun a h => .inl h) lsw
      | true =>
        simp only at o
        refine iteT ⟨ρ2, F4, fp4, s4, ?_⟩
        cases c5 : elt ρ2 with
        | bad => rw [c5] at o; cases o
        | ex _ _ _ => rw [c5] at o; cases o
        | ok ty ρ3 =>
        rw [c5] at o
        simp only at o
        split at o
        · rename_i hz
          intro yv F5 H5 fp5 C s5 my x5
          obtain ⟨m5, nb⟩ := m4.on s4 x5 s5
          obtain ⟨acc, h1, h2, h3, s6, m6⟩ := Tmp.push s5 m5 my nb
          have x06 : Ext F0 H0 fp0 F5 (upd H5 D (.lst (acc ++ [yv]))) fp5 (B ++ C) := (((x03.trans x4).trans x5).more fun a h => by
            (rcases List.mem_append.mp h with h | h)
            · exact .inr (x03.own a (.inl h))
            · exact .inl h).poke hD0
          refine ⟨acc, h1, by rw [h2]; exact hz, wipeR ρ3 vs, F5, fp5, ts ++ [ty], B ++ C, weq ▸ s6.wiped vs, x06, m6, fun a o h => x5.fsub a o (x4.fsub a o (e2 a o (hF a o h))), List.mem_append_left _ hDB, ?_, by rw [hr']; exact o⟩
          refine wk.on gd3 s3p ((weq ▸ s6.wiped vs : Sim K F5 _ (wipe σ vs) (wipeR ρ3 vs) fp5).plus m6 (by rw [wipe_length]; exact Nat.le_refl _)) (((x4.trans x5).plus fun a h => ?_).poke (.inl ⟨σ.length, mem_plus.mpr (.inr ⟨rfl, hDB⟩)⟩)) lsw
          exact List.mem_append.mp h
        · cases o
    · left
      have e : i = w.n := by omega
      subst e
      simp only [Nat.sub_self, lcN] at o
      split at o
      · rename_i hf
        cases o
        refine ⟨wk.stop sp g hf, q (.ref D) F H _ B (s.ghost (σ0 := σ) (ρ0 := backR ρ1 ρe vs) (vs := vs) (wipe_length σ vs).symm (by simp [backR]) (fun j hj => by rw [wipe_get, if_neg hj]) fun j t h => ?_) ⟨mB.r, fun a h i z => ?_, mB.ff⟩ (x.less fun a i z => ?_)⟩
        · rcases backR_get h with h | ⟨hj, x', rfl, h9⟩
          · exact .inl h
          · exact .inr ⟨hj, x', by
              obtain ⟨v, e, r⟩ := s1.sl j _ h9
              exact ⟨v, rfl, e, r.fz.mono hF⟩⟩
        · split at z
          · simp at z
          · exact mB.dj a h i z
        · split at z
          · simp at z
          · exact ⟨i, z⟩
      · cases o
theorem tLc_ok {it : G It0} {f : T → Rho → Option Rho} {test : G Bool} {elt : G T} {vs : List Nat} {W : XW} {K : Par} (hst : ∀ j, j ∈ st → j ∈ vs) {σ : St} {H : Hp} {Q : VK} (q : tG K W (gLc vs it f test elt) σ H Q) : tLc (tI K W it) (tN K f st) (tT K Wno test) (tG K Wno elt) vs σ H Q := by
  obtain ⟨ρ, F, fp, s, q⟩ := q
  refine ⟨ρ, F, fp, s, q.bind.imp (Ext.refl F H fp) fun w ρ1 _ q J F' H' fp' Gd s' x wk g0 D hD => ?_⟩
  obtain ⟨A, x⟩ := x
  split at q
  · rename_i hd
    split at q
    · rename_i us ρe o
      exact lc_ok wk hd hst s' x.nil g0 o q hD
    · exact q.elim
  · exact q.elim
theorem de_lc {own : List (Str × Nat)} {it : G It0} {f : T → Rho → Option Rho} {test : G Bool} {W : XW} (hc : X.calm = true) (hN : X.N.Nodup) (hi : DI X cls W tg iter it) (ok : BlkOk X.N X.env.scope scope own) (hst : ∀ j, j ∈ st → j ∈ own.map (·.2))
    (hg : ∀ (s : Shared) (H : Hp) (C : Addr) (cl : List (Str × Addr)) (fp : List Addr), DG (X.blk s H scope (compEnvC scope cl C X.env) fp) cls tg f st) (ht : ∀ (s : Shared) (H : Hp) (C : Addr) (cl : List (Str × Addr)) (fp : List Addr), DTs (X.blk s H scope (compEnvC scope cl C X.env) fp) cls ifs test)
    (he : ∀ (s : Shared) (H : Hp) (C : Addr) (cl : List (Str × Addr)) (fp : List Addr), DE (X.blk s H scope (compEnvC scope cl C X.env) fp) cls Wno elt o) (hs : ∀ x, foldedSetIterable iter X.env x = pure x) :
    DE X cls W (.ListComp elt [⟨tg, iter, ifs, 0⟩] scope pos) (.val (gLc (own.map (·.2)) it f test o.vg)) :=
  ⟨(pe_lc hc hN hi ok hg ht (fun s H C cl fp => (he s H C cl fp).own) hs).imp fun σ H Q q => tLc_ok hst q, rfl⟩
end
end Hu
set_option Elab.async false
set_option linter.all false
set_option maxRecDepth 100000
/-! HuM: trees lent to a callee, calls of defs by their functions on trees. -/
namespace Hu
open PySem L2
mutual
/-- an owned tree as frozen data -/
def frzOf : T → Option D
  | .d x => some x
  | .lst ts => (frzsOf ts).map .list
  | .tup ts => (frzsOf ts).map .tuple
  | .dK kvs => (frzkOf kvs).map .dict
  | _ => none
def frzsOf : List T → Option (List D)
  | [] => some []
  | t :: ts => match frzOf t, frzsOf ts with
    | some x, some xs => some (x :: xs)
    | _, _ => none
def frzkOf : List (Key × T) → Option (List (D × D))
  | [] => some []
  | (k, t) :: ts => match frzOf t, frzkOf ts with
    | some x, some xs => some ((kD k, x) :: xs)
    | _, _ => none
end
theorem frzkOf_split : ∀ {kvs : List (Key × T)} {ds : List (D × D)}, frzkOf kvs = some ds → ds.map Prod.fst = kvs.map (fun p => kD p.1) ∧ frzsOf (kvs.map Prod.snd) = some (ds.map Prod.snd)
  | [], ds, h => by simp [frzkOf] at h; subst h; exact ⟨rfl, rfl⟩
  | (k, t) :: ts, ds, h => by
    simp only [frzkOf] at h
    cases q1 : frzOf t with
    | none => rw [q1] at h; simp at h
    | some x =>
      cases q2 : frzkOf ts with
      | none => rw [q1, q2] at h; simp at h
      | some xs =>
        rw [q1, q2] at h; simp at h; subst h
        obtain ⟨e1, e2⟩ := frzkOf_split q2
        exact ⟨by simp [e1], by simp [frzsOf, q1, e2]⟩
/-- all tuples and the cells B frozen too -/
def Fr (F H : Hp) (B : List Addr) : Hp := fun a => match F a with
  | some o => some o
  | none => match H a with
    | some o => if isT o = true ∨ a ∈ B then some o else none
    | none => none
theorem Fr.same {F H : Hp} {B : List Addr} : Same F (Fr F H B) := fun a o h => by
  unfold Fr; rw [h]
theorem Fr.sub {F H : Hp} {B : List Addr} (e : Same F H) : Same (Fr F H B) H := fun a o h => by
  unfold Fr at h
  cases q : F a with
  | some u => rw [q] at h; simp only at h; cases h; exact e a _ q
  | none =>
    rw [q] at h
    simp only at h
    cases q2 : H a with
    | none => rw [q2] at h; cases h
    | some u =>
      rw [q2] at h
      simp only at h
      split at h
      · exact h
      · cases h
theorem Fr.inv {F H : Hp} {B : List Addr} {a : Addr} {o : HO} (h : Fr F H B a = some o) : F a = some o ∨ (H a = some o ∧ (isT o = true ∨ a ∈ B)) := by
  unfold Fr at h
  cases q : F a with
  | some u => rw [q] at h; simp only at h; cases h; exact .inl rfl
  | none =>
    rw [q] at h
    simp only at h
    cases q2 : H a with
    | none => rw [q2] at h; cases h
    | some u =>
      rw [q2] at h
      simp only at h
      split at h
      · rename_i c; cases h; exact .inr ⟨rfl, c⟩
      · cases h
theorem Fr.at {F H : Hp} {B : List Addr} {a : Addr} {o : HO} (e : Same F H) (h : H a = some o) (c : isT o = true ∨ a ∈ B) : Fr F H B a = some o := by
  unfold Fr
  cases q : F a with
  | some u => simp only; rw [e a u q] at h; exact h
  | none => simp only [h]; rw [if_pos c]
mutual
theorem R.freeze {K : Par} {F H : Hp} {B : List Addr} (e : Same F H) : ∀ {v : V} {t : T} {A : List Addr} {x : D}, R K F H v t A → frzOf t = some x → (∀ a, a ∈ A → a ∈ B) → Fz K (Fr F H B) v x
  | _, _, _, x, .d h, q, _ => by
    simp only [frzOf, Option.some.injEq] at q; subst q; exact h.mono Fr.same
  | _, _, _, x, .lst h1 h2 _, q, i => by
    simp only [frzOf, Option.map_eq_some_iff] at q
    obtain ⟨xs, q1, rfl⟩ := q
    exact .lst (Fr.at e h1 (.inr (i _ List.mem_cons_self))) (RA.freeze e h2 q1 fun a z => i a (List.mem_cons_of_mem _ z))
  | _, _, _, x, .tup h1 h2, q, i => by
    simp only [frzOf, Option.map_eq_some_iff] at q
    obtain ⟨xs, q1, rfl⟩ := q
    exact .tup (Fr.at e h1 (.inl rfl)) (RA.freeze e h2 q1 i)
  | _, _, _, x, .dK h1 h0 h2 _, q, i => by
    simp only [frzOf, Option.map_eq_some_iff] at q
    obtain ⟨xs, q1, rfl⟩ := q
    obtain ⟨e1, e2⟩ := frzkOf_split q1
    refine .dic (Fr.at e h1 (.inr (i _ List.mem_cons_self))) ?_ (RA.freeze e h2 e2 fun a z => i a (List.mem_cons_of_mem _ z))
    rw [e1]
    have : ∀ {α β : Type} (l : List (Key × α)) (m : List (Key × β)), l.map Prod.fst = m.map Prod.fst → m.map (fun p => kD p.1) = l.map (fun p => kD p.1) := fun l m h => by
      have := congrArg (List.map kD) h
      simpa [List.map_map, Function.comp_def] using this.symm
    exact this _ _ h0
  | _, _, _, x, .scr _, q, _ => by simp [frzOf] at q
  | _, _, _, x, .dT _ _ _ _, q, _ => by simp [frzOf] at q
  | _, _, _, x, .ins _ _ _ _ _ _, q, _ => by simp [frzOf] at q
theorem RA.freeze {K : Par} {F H : Hp} {B : List Addr} (e : Same F H) : ∀ {vs : List V} {ts : List T} {A : List Addr} {xs : List D}, RA K F H vs ts A → frzsOf ts = some xs → (∀ a, a ∈ A → a ∈ B) → FzA K (Fr F H B) vs xs
  | _, _, _, xs, .nil, q, _ => by simp [frzsOf] at q; subst q; exact .nil
  | _, _, _, xs, .cons (t := t) (ts := ts) h1 h2 _, q, i => by
    simp only [frzsOf] at q
    cases q1 : frzOf t with
    | none => rw [q1] at q; simp at q
    | some y =>
      cases q2 : frzsOf ts with
      | none => rw [q1, q2] at q; simp at q
      | some ys =>
        rw [q1, q2] at q; simp at q; subst q
        exact .cons (R.freeze e h1 q1 fun a z => i a (List.mem_append_left _ z)) (RA.freeze e h2 q2 fun a z => i a (List.mem_append_right _ z))
end
mutual
/-- nothing that is shared could change -/
def indep : T → Bool
  | .d x => imm x
  | .scr _ => false
  | .lst ts => indepA ts
  | .tup ts => indepA ts
  | .dK kvs => indepK kvs
  | .dT kvs => indepT kvs
  | .ins _ fs => indepF fs
def indepA : List T → Bool
  | [] => true
  | t :: ts => indep t && indepA ts
def indepK : List (Key × T) → Bool
  | [] => true
  | (_, t) :: ts => indep t && indepK ts
def indepT : List (List Key × T) → Bool
  | [] => true
  | (_, t) :: ts => indep t && indepT ts
def indepF : List (Str × T) → Bool
  | [] => true
  | (_, t) :: ts => indep t && indepF ts
end
theorem indepK_map : ∀ {kvs : List (Key × T)}, indepK kvs = true → indepA (kvs.map Prod.snd) = true
  | [], _ => rfl
  | (_, _) :: ts, h => by
    simp only [indepK, Bool.and_eq_true] at h
    simp [indepA, h.1, indepK_map h.2]
theorem indepT_map : ∀ {kvs : List (List Key × T)}, indepT kvs = true → indepA (kvs.map Prod.snd) = true
  | [], _ => rfl
  | (_, _) :: ts, h => by
    simp only [indepT, Bool.and_eq_true] at h
    simp [indepA, h.1, indepT_map h.2]
theorem indepF_map : ∀ {kvs : List (Str × T)}, indepF kvs = true → indepA (kvs.map Prod.snd) = true
  | [], _ => rfl
  | (_, _) :: ts, h => by
    simp only [indepF, Bool.and_eq_true] at h
    simp [indepA, h.1, indepF_map h.2]
mutual
theorem R.indep {K : Par} {F G H : Hp} (e : TupSub F G) : ∀ {v : V} {t : T} {A : List Addr}, R K F H v t A → indep t = true → R K G H v t A
  | _, _, _, .d h, q => .d (h.immMono e (by simpa [Hu.indep] using q))
  | _, _, _, .scr _, q => by simp [Hu.indep] at q
  | _, _, _, .lst h1 h2 n, q => .lst h1 (RA.indep e h2 (by simpa [Hu.indep] using q)) n
  | _, _, _, .tup h1 h2, q => .tup h1 (RA.indep e h2 (by simpa [Hu.indep] using q))
  | _, _, _, .dK h1 h0 h2 n, q => .dK h1 h0 (RA.indep e h2 (indepK_map (by simpa [Hu.indep] using q))) n
  | _, _, _, .dT h1 h0 h2 n, q => .dT h1 h0 (RA.indep e h2 (indepT_map (by simpa [Hu.indep] using q))) n
  | _, _, _, .ins h1 h0 h3 h2 n m, q => .ins h1 h0 h3 (RA.indep e h2 (indepF_map (by simpa [Hu.indep] using q))) n m
theorem RA.indep {K : Par} {F G H : Hp} (e : TupSub F G) : ∀ {vs : List V} {ts : List T} {A : List Addr}, RA K F H vs ts A → indepA ts = true → RA K G H vs ts A
  | _, _, _, .nil, _ => .nil
  | _, _, _, .cons h1 h2 n, q => by
    simp only [indepA, Bool.and_eq_true] at q
    exact .cons (R.indep e h1 q.1) (RA.indep e h2 q.2) n
end

/-! ### the promise of a def -/
inductive FOut where
  | ret (t : T) (back : Rho)
  | ex (c : Str) (f : Option (Str × T)) (back : Rho)
  | bad
  deriving Inhabited
abbrev FnT := List T → FOut
def OutF (K : Par) (F H : Hp) (vs : List V) (fp : Nat → List Addr) (Q : VK) (E : XK) : FOut → Prop
  | .ret t back => ∀ v F' H' fp' A, Sim K F' H' (vs.map some) back fp' → Tmp K F' H' fp' v t A → Ext F H fp F' H' fp' A → Q v H'
  | .ex c f back => ∀ d F' H' fp' A, Sim K F' H' (vs.map some) back fp' → XDict K F' H' fp' d f A → Ext F H fp F' H' fp' A → E (.ref (K.cls c)) d H'
  | .bad => False
def spT (K : Par) (n : Nat) (fn : FnT) : Sp := fun vs H Q E => vs.length = n ∧ ∃ F fp ts, Sim K F H (vs.map some) (ts.map some) fp ∧ OutF K F H vs fp Q E (fn ts)

/-! ### lending -/
def frzT : T → Option T
  | .scr ns => some (.scr ns)
  | t => (frzOf t).map .d
def argT : List Bool → List T → Option (List T)
  | true :: io, t :: ts => (argT io ts).map (t :: ·)
  | false :: io, t :: ts => match frzT t, argT io ts with
    | some x, some xs => some (x :: xs)
    | _, _ => none
  | [], [] => some []
  | _, _ => none
def lentAt (os : List Opd) (io : List Bool) (i : Nat) : Option Nat := match os[i]?, io[i]? with
  | some (.nm j), some true => some j
  | _, _ => none
/-- the slots that are looked at only -/
def borS : List Opd → List Bool → List Nat
  | .nm j :: os, false :: io => j :: borS os io
  | _ :: os, _ :: io => borS os io
  | _, _ => []
/-- what is lent is lent once, as a name -/
def ioC : List Opd → List Bool → Bool
  | .nm _ :: os, true :: io => ioC os io
  | .con _ _ :: os, false :: io => ioC os io
  | .val _ :: os, false :: io => ioC os io
  | .nm _ :: os, false :: io => ioC os io
  | [], [] => true
  | _, _ => false
def lendC (os : List Opd) (io : List Bool) : Bool := ioC os io && (List.range os.length).all (fun i => (List.range os.length).all fun k => i == k || lentAt os io i == none || lentAt os io i != lentAt os io k) && (borS os io).all fun j => (List.range os.length).all fun i => lentAt os io i != some j
def lentFp (os : List Opd) (io : List Bool) (fp : Nat → List Addr) : Nat → List Addr := fun i => match lentAt os io i with
  | some j => fp j
  | none => []
theorem lend_args {K : Par} {F H : Hp} {σ : St} {fp : Nat → List Addr} {ρ : Rho} {B : List Addr} (e : Same F H) (s : Sim K F H σ ρ fp) : ∀ {os : List Opd} {io : List Bool} {vs : List V} {xs : List (Option T)} {D : List Addr} {ts us : List T}, ArgsR K F H σ fp os vs xs D → fins os xs ρ = some ts → argT io ts = some us → ioC os io = true →
    (∀ a, a ∈ D → a ∈ B) → (∀ j, j ∈ borS os io → ∀ a, a ∈ fp j → a ∈ B) → vs.length = us.length ∧ os.length = us.length ∧ ∀ i u, us[i]? = some u → ∃ v, vs[i]? = some v ∧ R K (Fr F H B) H v u (lentFp os io fp i)
  | _, io, _, _, _, ts, us, .nil, h, h2, h3, _, _ => by
    simp only [fins] at h
    cases h
    cases io with
    | nil => simp [argT] at h2; subst h2; exact ⟨rfl, rfl, fun i u h => by simp at h⟩
    | cons b io => cases b <;> simp [argT] at h2
  | _, io, _, _, _, ts, us, .nm (i := i) (os := os) (v := v) (vs := vs) (xs := xs) hv ha, h, h2, h3, hB, hC => by
    simp only [fins] at h
    cases q : getS ρ i with
    | none => rw [q] at h; simp at h
    | some t =>
      cases q2 : fins os xs ρ with
      | none => rw [q, q2] at h; simp at h
      | some ws =>
        rw [q, q2] at h; simp at h; subst h
        obtain ⟨v', hv', r⟩ := s.sl i t (getS_some q)
        rw [hv] at hv'; cases hv'
        cases io with
        | nil => simp [argT] at h2
        | cons b io =>
          cases b with
          | true =>
            simp only [argT, Option.map_eq_some_iff] at h2
            obtain ⟨us', h4, rfl⟩ := h2
            obtain ⟨l1, l2, z⟩ := lend_args e s ha q2 h4 (by simpa [ioC] using h3) hB (fun j hj => hC j (by simpa [borS] using hj))
            refine ⟨by simp [l1], by simp [l2], fun k u hk => ?_⟩
            cases k with
            | zero => simp at hk; subst hk; exact ⟨v, rfl, by show R K _ H v _ (fp i); exact r.frame Fr.same (fun _ _ h => h) fun _ _ => rfl⟩
            | succ k => simp at hk; exact z k u hk
          | false =>
            simp only [argT] at h2
            cases q5 : frzT t with
            | none => rw [q5] at h2; simp at h2
            | some y =>
              cases q6 : argT io ws with
              | none => rw [q5, q6] at h2; simp at h2
              | some us' =>
                rw [q5, q6] at h2; simp at h2; subst h2
                obtain ⟨l1, l2, z⟩ := lend_args e s ha q2 q6 (by simpa [ioC] using h3) hB (fun j hj => hC j (by simp [borS, hj]))
                refine ⟨by simp [l1], by simp [l2], fun k u hk => ?_⟩
                cases k with
                | zero =>
                  simp at hk; subst hk
                  refine ⟨v, rfl, ?_⟩
                  show R K _ H v _ []
                  exact frz1 e r q5 fun a ha => hC i (by simp [borS]) a ha
                | succ k => simp at hk; exact z k u hk
  | _, io, _, _, _, ts, us, .con (os := os) (xs := xs) (v := v) (x := x) hv ha, h, h2, h3, hB, hC => by
    simp only [fins] at h
    cases q2 : fins os xs ρ with
    | none => rw [q2] at h; simp at h
    | some ws =>
      rw [q2] at h; simp at h; subst h
      cases io with
      | nil => simp [argT] at h2
      | cons b io =>
        cases b with
        | true => simp [ioC] at h3
        | false =>
          simp only [argT] at h2
          have q5 : frzT (.d x) = some (.d x) := by simp [frzT, frzOf]
          cases q6 : argT io ws with
          | none => rw [q5, q6] at h2; simp at h2
          | some us' =>
            rw [q5, q6] at h2; simp at h2; subst h2
            obtain ⟨l1, l2, z⟩ := lend_args e s ha q2 q6 (by simpa [ioC] using h3) hB (fun j hj => hC j (by simpa [borS] using hj))
            refine ⟨by simp [l1], by simp [l2], fun k u hk => ?_⟩
            cases k with
            | zero =>
              simp at hk; subst hk
              exact ⟨v, rfl, by show R K _ H v _ []; exact .d (hv.mono Fr.same)⟩
            | succ k => simp at hk; exact z k u hk
  | _, io, _, _, _, ts, us, .val (os := os) (xs := xs) (v := v) (t := t) hv _ ha, h, h2, h3, hB, hC => by
    simp only [fins] at h
    cases q2 : fins os xs ρ with
    | none => rw [q2] at h; simp at h
    | some ws =>
      rw [q2] at h; simp at h; subst h
      cases io with
      | nil => simp [argT] at h2
      | cons b io =>
        cases b with
        | true => simp [ioC] at h3
        | false =>
          simp only [argT] at h2
          cases q5 : frzT t with
          | none => rw [q5] at h2; simp at h2
          | some y =>
            cases q6 : argT io ws with
            | none => rw [q5, q6] at h2; simp at h2
            | some us' =>
              rw [q5, q6] at h2; simp at h2; subst h2
              obtain ⟨l1, l2, z⟩ := lend_args e s ha q2 q6 (by simpa [ioC] using h3) (fun a z => hB a (List.mem_append_right _ z)) (fun j hj => hC j (by simpa [borS] using hj))
              refine ⟨by simp [l1], by simp [l2], fun k u hk => ?_⟩
              cases k with
              | zero =>
                simp at hk; subst hk
                refine ⟨v, rfl, ?_⟩
                show R K _ H v _ []
                exact frz1 e hv.r q5 fun a ha => hB a (List.mem_append_left _ ha)
              | succ k => simp at hk; exact z k u hk
  | _, io, _, _, _, ts, us, .pk _ ha, h, h2, h3, _, _ => by cases io <;> simp [ioC] at h3
  | _, io, _, _, _, ts, us, .iv ha, h, h2, h3, _, _ => by cases io <;> simp [ioC] at h3
where
  frz1 {K : Par} {F H : Hp} {B : List Addr} {v : V} {t y : T} {A : List Addr} (e : Same F H) (r : R K F H v t A) (q : frzT t = some y) (i : ∀ a, a ∈ A → a ∈ B) : R K (Fr F H B) H v y [] := by
    cases t with
    | scr ns =>
      simp [frzT] at q
      subst q
      cases r with
      | scr h => exact .scr (sqL_on Fr.same h)
    | _ =>
      simp only [frzT, Option.map_eq_some_iff] at q
      obtain ⟨x, q, rfl⟩ := q
      exact .d (r.freeze e q i)

theorem lent_val {K : Par} {F H : Hp} {σ : St} {fp : Nat → List Addr} : ∀ {os : List Opd} {io : List Bool} {vs : List V} {xs : List (Option T)} {D : List Addr}, ArgsR K F H σ fp os vs xs D → ∀ {i j : Nat}, lentAt os io i = some j → ∃ v, vs[i]? = some v ∧ σ[j]? = some (some v) := by
  intro os io vs xs D h
  induction h generalizing io with
  | nil => intro i j h; simp [lentAt] at h
  | nm hv ha ih =>
    intro i j h
    cases io with
    | nil => simp [lentAt] at h
    | cons b io =>
      cases i with
      | zero =>
        cases b with
        | true => simp [lentAt] at h; subst h; exact ⟨_, rfl, hv⟩
        | false => simp [lentAt] at h
      | succ i => exact ih (io := io) (i := i) (by simpa [lentAt] using h)
  | con hv ha ih =>
    intro i j h
    cases io with
    | nil => simp [lentAt] at h
    | cons b io =>
      cases i with
      | zero => simp [lentAt] at h
      | succ i => exact ih (io := io) (i := i) (by simpa [lentAt] using h)
  | val hv _ ha ih =>
    intro i j h
    cases io with
    | nil => simp [lentAt] at h
    | cons b io =>
      cases i with
      | zero => simp [lentAt] at h
      | succ i => exact ih (io := io) (i := i) (by simpa [lentAt] using h)
  | pk hv ha ih =>
    intro i j h
    cases io with
    | nil => simp [lentAt] at h
    | cons b io =>
      cases i with
      | zero => simp [lentAt] at h
      | succ i => exact ih (io := io) (i := i) (by simpa [lentAt] using h)
  | iv ha ih =>
    intro i j h
    cases io with
    | nil => simp [lentAt] at h
    | cons b io =>
      cases i with
      | zero => simp [lentAt] at h
      | succ i => exact ih (io := io) (i := i) (by simpa [lentAt] using h)
/-- the cells of what was made -/
theorem ArgsR.temps {K : Par} {F H : Hp} {σ : St} {fp : Nat → List Addr} {os : List Opd} {vs : List V} {xs : List (Option T)} {B : List Addr} (h : ArgsR K F H σ fp os vs xs B) : Live H B ∧ (∀ a, a ∈ B → F a = none) ∧ ∀ a, a ∈ B → ∀ i, a ∉ fp i := by
  induction h with
  | nil => exact ⟨fun a h => by simp at h, fun a h => by simp at h, fun a h => by simp at h⟩
  | nm hv ha ih => exact ih
  | con hv ha ih => exact ih
  | pk hv ha ih => exact ih
  | iv ha ih => exact ih
  | val hv _ ha ih =>
    refine ⟨fun a h => ?_, fun a h => ?_, fun a h => ?_⟩
    · (rcases List.mem_append.mp h with h | h)
      · exact hv.r.live a h
      · exact ih.1 a h
    · (rcases List.mem_append.mp h with h | h)
      · exact hv.ff a h
      · exact ih.2.1 a h
    · (rcases List.mem_append.mp h with h | h)
      · exact hv.dj a h
      · exact ih.2.2 a h
def lentOf (os : List Opd) (io : List Bool) (j : Nat) : Option Nat := (List.range os.length).find? fun i => lentAt os io i == some j
theorem lentOf_some {os : List Opd} {io : List Bool} {j i : Nat} (h : lentOf os io j = some i) : lentAt os io i = some j := by
  have := List.find?_some h
  simpa using this
theorem lentOf_none {os : List Opd} {io : List Bool} {j : Nat} (h : lentOf os io j = none) (i : Nat) : lentAt os io i ≠ some j := fun q => by
  have l : i < os.length := by
    unfold lentAt at q
    cases c : os[i]? with
    | none => rw [c] at q; simp at q
    | some o => exact (List.getElem?_eq_some_iff.mp c).1
  have := List.find?_eq_none.mp h i (by simpa using l)
  simp [q] at this
def borrowed (os : List Opd) (io : List Bool) (fp : Nat → List Addr) (B : List Addr) : List Addr := B ++ (borS os io).flatMap fp
def backL (m : Bool) (os : List Opd) (io : List Bool) (back ρ : Rho) : Rho := ρ.mapIdx fun j u => match lentOf os io j with
  | some i => getS back i
  | none => if m = true then u else if j ∈ borS os io then (match u with
    | some t => frzT t
    | none => none) else u
theorem lend_back {K : Par} {F0 H0 F H : Hp} {σ : St} {ρ : Rho} {fp0 fp : Nat → List Addr} {B : List Addr} {os : List Opd} {io : List Bool} {vs : List V} {xs : List (Option T)} (x0 : Ext F0 H0 fp0 F H fp B) (s : Sim K F H σ ρ fp) (ar : ArgsR K F H σ fp os vs xs B) (hl : lendC os io = true)
    {F' H' : Hp} {fp' : Nat → List Addr} {A : List Addr} {back : Rho} (s' : Sim K F' H' (vs.map some) back fp') (x' : Ext (Fr F H (borrowed os io fp B)) H (lentFp os io fp) F' H' fp' A) (m : Bool) (hm : m = true → ∀ (i j : Nat) t, lentAt os io i = some j → back[i]? = some (some t) → indep t = true) :
    ∃ G fp2, Sim K G H' σ (backL m os io back ρ) fp2 ∧ Ext F0 H0 fp0 G H' fp2 A ∧ (∀ v t C, Tmp K F' H' fp' v t C → (∀ a, a ∈ C → a ∈ A) → (m = true → indep t = true) → Tmp K G H' fp2 v t C) ∧ (∀ a, a ∈ A → (∀ i, a ∉ fp' i) → ∀ i, a ∉ fp2 i) ∧ ∀ a, F' a = none → G a = none := by
  obtain ⟨tl, tf, td⟩ := ar.temps
  have hl1 : (List.range os.length).all (fun i => (List.range os.length).all fun k => i == k || lentAt os io i == none || lentAt os io i != lentAt os io k) = true := by
    unfold lendC at hl; simp only [Bool.and_eq_true] at hl; exact hl.1.2
  have hl2 : (borS os io).all (fun j => (List.range os.length).all fun i => lentAt os io i != some j) = true := by
    unfold lendC at hl; simp only [Bool.and_eq_true] at hl; exact hl.2
  have llt : ∀ {i j : Nat}, lentAt os io i = some j → i < os.length := fun {i j} q => by
    unfold lentAt at q
    cases c : os[i]? with
    | none => rw [c] at q; simp at q
    | some o => exact (List.getElem?_eq_some_iff.mp c).1
  have inj : ∀ {i k j : Nat}, lentAt os io i = some j → lentAt os io k = some j → i = k := fun {i k j} q1 q2 => by
    have z := List.all_eq_true.mp (List.all_eq_true.mp hl1 i (by simpa using llt q1)) k (by simpa using llt q2)
    simp [q1, q2] at z
    exact z
  have norb : ∀ {j : Nat}, j ∈ borS os io → ∀ i, lentAt os io i ≠ some j := fun {j} h i q => by
    have z := List.all_eq_true.mp (List.all_eq_true.mp hl2 j h) i (by simpa using llt q)
    simp [q] at z
  have cell : ∀ {i : Nat} {a : Addr}, a ∈ lentFp os io fp i → ∃ j, lentAt os io i = some j ∧ a ∈ fp j := fun {i a} h => by
    unfold lentFp at h
    cases c : lentAt os io i with
    | none => rw [c] at h; simp at h
    | some j => rw [c] at h; exact ⟨j, rfl, h⟩
  have out : ∀ {j : Nat} {a : Addr}, (∀ i, lentAt os io i ≠ some j) → a ∈ fp j → ∀ i, a ∉ lentFp os io fp i := fun {j a} n h i q => by
    obtain ⟨k, e, z⟩ := cell q
    by_cases c : j = k
    · subst c; exact n i e
    · exact s.dj j k c a h z
  have bout : ∀ {a : Addr}, a ∈ borrowed os io fp B → (∃ o, H a = some o ∧ isT o = false) ∧ F a = none ∧ ∀ i, a ∉ lentFp os io fp i := fun {a} h => by
    (rcases List.mem_append.mp h with h | h)
    · refine ⟨tl a h, tf a h, fun i q => ?_⟩
      obtain ⟨k, e, z⟩ := cell q
      exact td a h k z
    · obtain ⟨j, hj, h⟩ := List.mem_flatMap.mp h
      exact ⟨s.mt j a h, s.ff j a h, out (norb hj) h⟩
  have keep1 : ∀ {j : Nat}, (∀ i, lentAt os io i ≠ some j) → ∀ a, a ∈ fp j → H' a = H a := fun {j} n a h => by
    obtain ⟨o, e, _⟩ := s.mt j a h
    rw [e]; exact x'.keep a o e (out n h)
  have tu : TupSub H H' := fun a xs h => x'.keep a _ h fun i q => by
    obtain ⟨k, e, z⟩ := cell q
    obtain ⟨o, e2, nt⟩ := s.mt k a z
    rw [h] at e2; cases e2; cases nt
  let G : Hp := fun a => if m = true ∧ a ∈ borrowed os io fp B then none else F' a
  let fp2 : Nat → List Addr := fun j => match lentOf os io j with
    | some i => fp' i
    | none => if m = false ∧ j ∈ borS os io then [] else fp j
  have fp2l : ∀ {j i : Nat}, lentOf os io j = some i → fp2 j = fp' i := fun {j i} h => by show (match lentOf os io j with | some i => fp' i | none => _) = _; rw [h]
  have fp2n : ∀ {j : Nat} {a : Addr}, lentOf os io j = none → a ∈ fp2 j → a ∈ fp j ∧ ¬ (m = false ∧ j ∈ borS os io) := fun {j a} h z => by
    have z : a ∈ (match lentOf os io j with | some i => fp' i | none => if m = false ∧ j ∈ borS os io then [] else fp j) := z
    rw [h] at z
    simp only at z
    split at z
    · simp at z
    · exact ⟨z, by assumption⟩
  have GF : ∀ {a o}, G a = some o → F' a = some o := fun {a o} h => by
    have h : (if m = true ∧ a ∈ borrowed os io fp B then none else F' a) = some o := h
    split at h
    · cases h
    · exact h
  have GN : ∀ a, F' a = none → G a = none := fun a h => by
    show (if m = true ∧ a ∈ borrowed os io fp B then none else F' a) = none
    split
    · rfl
    · exact h
  have FG : Same F G := fun a o h => by
    show (if m = true ∧ a ∈ borrowed os io fp B then none else F' a) = some o
    rw [if_neg (fun c => by rw [(bout c.2).2.1] at h; cases h)]
    exact x'.fsub a o (Fr.same a o h)
  have FG' : TupSub F' G := fun a xs h => by
    show (if m = true ∧ a ∈ borrowed os io fp B then none else F' a) = _
    rw [if_neg (fun c => by
      obtain ⟨⟨o, e, nt⟩, _, n⟩ := bout c.2
      have := x'.keep a o e n
      rw [s'.sub a _ h] at this
      cases this; cases nt)]
    exact h
  have GH : Same G H' := fun a o h => s'.sub a o (GF h)
  have dj2 : ∀ {j i : Nat} {a : Addr}, (∀ i, lentAt os io i ≠ some j) → a ∈ fp j → a ∉ fp' i ∧ a ∉ A := fun {j i a} n h => by
    have no : ¬ ((∃ i, a ∈ lentFp os io fp i) ∨ H a = none) := fun q => by
      rcases q with ⟨i, q⟩ | q
      · exact out n h i q
      · obtain ⟨o, e, _⟩ := s.mt j a h
        rw [e] at q; cases q
    exact ⟨fun q => no (x'.own a (.inr ⟨i, q⟩)), fun q => no (x'.own a (.inl q))⟩
  have back1 : ∀ {a : Addr}, ((∃ i, a ∈ lentFp os io fp i) ∨ H a = none) → (∃ i, a ∈ fp0 i) ∨ H0 a = none := fun {a} q => by
    rcases q with ⟨i, q⟩ | q
    · obtain ⟨j, _, z⟩ := cell q
      exact x0.own a (.inr ⟨j, z⟩)
    · cases c : H0 a with
      | none => exact .inr rfl
      | some u =>
        by_cases e : ∃ i, a ∈ fp0 i
        · exact .inl e
        · have := x0.keep a u c fun i z => e ⟨i, z⟩
          rw [q] at this; cases this
  have fromB : ∀ {a : Addr}, a ∈ borrowed os io fp B → (∃ i, a ∈ fp0 i) ∨ H0 a = none := fun {a} h => by
    (rcases List.mem_append.mp h with h | h)
    · exact x0.own a (.inl h)
    · obtain ⟨j, _, h⟩ := List.mem_flatMap.mp h
      exact x0.own a (.inr ⟨j, h⟩)
  refine ⟨G, fp2, ⟨?_, fun j t h => ?_, fun j k n a ha hb => ?_, fun j a h => ?_, fun j a h => ?_, GH⟩, ⟨fun a o e n => ?_, ?_, fun a o h => ?_, fun a h => ?_⟩, fun v t C mt hC hi => ?_, fun a ha n j h => ?_, GN⟩
  · simp [backL, s.len]
  · unfold backL at h
    rw [List.getElem?_mapIdx] at h
    cases q : ρ[j]? with
    | none => rw [q] at h; simp at h
    | some u =>
      rw [q] at h
      simp only [Option.map_some, Option.some.injEq] at h
      cases c : lentOf os io j with
      | some i =>
        rw [c] at h
        simp only at h
        have hb := getS_some h
        obtain ⟨v, e, r⟩ := s'.sl i t hb
        obtain ⟨v2, e2, e3⟩ := lent_val (io := io) ar (lentOf_some c)
        rw [List.getElem?_map, e2] at e
        simp at e
        subst e
        refine ⟨v2, e3, ?_⟩
        rw [fp2l c]
        cases mm : m with
        | true => exact r.indep FG' (hm mm i j t (lentOf_some c) hb)
        | false =>
          refine r.frame (fun a o h => ?_) (fun _ _ h => h) fun _ _ => rfl
          show (if m = true ∧ a ∈ borrowed os io fp B then none else F' a) = some o
          rw [if_neg (by simp [mm])]; exact h
      | none =>
        rw [c] at h
        simp only at h
        have nl := lentOf_none c
        have plain : u = some t → ¬ (m = false ∧ j ∈ borS os io) → ∃ v, σ[j]? = some (some v) ∧ R K G H' v t (fp2 j) := fun hu nb => by
          subst hu
          obtain ⟨v, e, r⟩ := s.sl j t q
          refine ⟨v, e, ?_⟩
          have : fp2 j = fp j := by
            show (match lentOf os io j with | some i => fp' i | none => if m = false ∧ j ∈ borS os io then [] else fp j) = _
            rw [c]; simp only; rw [if_neg nb]
          rw [this]
          exact r.frame FG tu (keep1 nl)
        cases mm : m with
        | true => rw [mm, if_pos rfl] at h; exact plain h (by simp [mm])
        | false =>
          rw [mm, if_neg (by decide)] at h
          by_cases hj : j ∈ borS os io
          · rw [if_pos hj] at h
            cases u with
            | none => cases h
            | some t0 =>
              simp only at h
              obtain ⟨v, e, r⟩ := s.sl j t0 q
              have r2 := lend_args.frz1 (B := borrowed os io fp B) s.sub r h fun a ha => List.mem_append_right _ (List.mem_flatMap.mpr ⟨j, hj, ha⟩)
              have : fp2 j = [] := by
                show (match lentOf os io j with | some i => fp' i | none => if m = false ∧ j ∈ borS os io then [] else fp j) = _
                rw [c]; simp only; rw [if_pos ⟨mm, hj⟩]
              refine ⟨v, e, ?_⟩
              rw [this]
              refine r2.frame (fun a o h => ?_) tu fun a z => by simp at z
              show (if m = true ∧ a ∈ borrowed os io fp B then none else F' a) = some o
              rw [if_neg (by simp [mm])]; exact x'.fsub a o h
          · rw [if_neg hj] at h
            exact plain h (by simp [hj])
  · cases c1 : lentOf os io j with
    | some i =>
      rw [fp2l c1] at ha
      cases c2 : lentOf os io k with
      | some i' =>
        rw [fp2l c2] at hb
        by_cases c : i = i'
        · subst c
          have := (lentOf_some c1).symm.trans (lentOf_some c2)
          exact n (Option.some.inj this)
        · exact s'.dj i i' c a ha hb
      | none =>
        obtain ⟨hb, _⟩ := fp2n c2 hb
        exact (dj2 (i := i) (lentOf_none c2) hb).1 ha
    | none =>
      obtain ⟨ha, _⟩ := fp2n c1 ha
      cases c2 : lentOf os io k with
      | some i' =>
        rw [fp2l c2] at hb
        exact (dj2 (i := i') (lentOf_none c1) ha).1 hb
      | none =>
        obtain ⟨hb, _⟩ := fp2n c2 hb
        exact s.dj j k n a ha hb
  · cases c1 : lentOf os io j with
    | some i => rw [fp2l c1] at h; exact GN a (s'.ff i a h)
    | none =>
      obtain ⟨h, nb⟩ := fp2n c1 h
      by_cases hB : a ∈ borrowed os io fp B
      · have mt : m = true := by
          cases mm : m with
          | true => rfl
          | false =>
            exfalso
            rcases List.mem_append.mp hB with z | z
            · exact td a z j h
            · obtain ⟨k, hk, z⟩ := List.mem_flatMap.mp z
              by_cases c : j = k
              · subst c; exact nb ⟨mm, hk⟩
              · exact s.dj j k c a h z
        show (if m = true ∧ a ∈ borrowed os io fp B then none else F' a) = none
        rw [if_pos ⟨mt, hB⟩]
      · apply GN
        cases q : F' a with
        | none => rfl
        | some o =>
          obtain ⟨u, e, nt⟩ := s.mt j a h
          rcases x'.fnew a o q with z | z | z | ⟨i, z⟩
          · rcases Fr.inv z with z | ⟨z, z2⟩
            · rw [s.ff j a h] at z; cases z
            · rcases z2 with z2 | z2
              · rw [e] at z; cases z; rw [nt] at z2; cases z2
              · exact absurd z2 hB
          · rw [e] at z; cases z
          · have := s'.sub a o q
            rw [keep1 (lentOf_none c1) a h, e] at this
            cases this; rw [nt] at z; cases z
          · exact absurd z (out (lentOf_none c1) h i)
  · cases c1 : lentOf os io j with
    | some i => rw [fp2l c1] at h; exact s'.mt i a h
    | none =>
      obtain ⟨h, _⟩ := fp2n c1 h
      obtain ⟨o, e, nt⟩ := s.mt j a h
      exact ⟨o, by rw [keep1 (lentOf_none c1) a h]; exact e, nt⟩
  · refine x'.keep a o (x0.keep a o e n) fun i q => ?_
    obtain ⟨j, _, z⟩ := cell q
    rcases x0.own a (.inr ⟨j, z⟩) with ⟨k, y⟩ | y
    · exact n k y
    · rw [e] at y; cases y
  · exact x0.fsub.trans FG
  · have hF := GF h
    rcases x'.fnew a o hF with z | z | z | ⟨i, z⟩
    · rcases Fr.inv z with z | ⟨_, z2⟩
      · exact x0.fnew a o z
      · rcases z2 with z2 | z2
        · exact .inr (.inr (.inl z2))
        · rcases fromB z2 with y | y
          · exact .inr (.inr (.inr y))
          · exact .inr (.inl y)
    · rcases back1 (.inr z) with y | y
      · exact .inr (.inr (.inr y))
      · exact .inr (.inl y)
    · exact .inr (.inr (.inl z))
    · rcases back1 (.inl ⟨i, z⟩) with y | y
      · exact .inr (.inr (.inr y))
      · exact .inr (.inl y)
  · rcases h with h | ⟨j, h⟩
    · exact back1 (x'.own a (.inl h))
    · cases c1 : lentOf os io j with
      | some i => rw [fp2l c1] at h; exact back1 (x'.own a (.inr ⟨i, h⟩))
      | none => exact x0.own a (.inr ⟨j, (fp2n c1 h).1⟩)
  · refine ⟨?_, fun a h j q => ?_, fun a h => GN a (mt.ff a h)⟩
    · cases mm : m with
      | true => exact mt.r.indep FG' (hi mm)
      | false =>
        refine mt.r.frame (fun a o h => ?_) (fun _ _ h => h) fun _ _ => rfl
        show (if m = true ∧ a ∈ borrowed os io fp B then none else F' a) = some o
        rw [if_neg (by simp [mm])]; exact h
    · cases c1 : lentOf os io j with
      | some i => rw [fp2l c1] at q; exact mt.dj a h i q
      | none => exact (dj2 (i := 0) (lentOf_none c1) (fp2n c1 q).1).2 (hC a h)
  · cases c1 : lentOf os io j with
    | some i => rw [fp2l c1] at h; exact n i h
    | none => exact (dj2 (i := 0) (lentOf_none c1) (fp2n c1 h).1).2 ha
end Hu
set_option Elab.async false
set_option linter.all false
set_option maxRecDepth 100000
/-! HuN: calls of defs, a def by its body. -/
namespace Hu
open PySem L2
def indepO : Option T → Bool
  | some t => indep t
  | none => true
def indepX : Option (Str × T) → Bool
  | some (_, t) => indep t
  | none => true
/-- what was lent and comes back bears nothing shared -/
def backC (io : List Bool) (back : Rho) : Bool := (List.range io.length).all fun i => !(io[i]?.getD false) || indepO (getS back i)
theorem backC_at {os : List Opd} {io : List Bool} {back : Rho} (h : backC io back = true) {i j : Nat} {t : T} (l : lentAt os io i = some j) (e : back[i]? = some (some t)) : indep t = true := by
  have hi : io[i]? = some true := by
    unfold lentAt at l
    split at l
    · assumption
    · cases l
  have lt : i < io.length := (List.getElem?_eq_some_iff.mp hi).1
  have z := List.all_eq_true.mp h i (by simpa using lt)
  simp only [hi, Option.getD_some, Bool.not_true, Bool.false_or] at z
  have g : getS back i = some t := by unfold getS; rw [e]; rfl
  rw [g] at z
  exact z
def gUser (fn : FnT) (io : List Bool) (os : List Opd) : G T := gOs os fun ts ρ => match argT io ts with
  | none => .bad
  | some us => if lendC os io = true then match fn us with
      | .ret t back => .ok t (backL (indep t && backC io back) os io back ρ)
      | .ex c f back => .ex c f (backL (indepX f && backC io back) os io back ρ)
      | .bad => .bad
    else .bad
theorem lend_sim {K : Par} {F H : Hp} {σ : St} {ρ : Rho} {fp : Nat → List Addr} {B : List Addr} {os : List Opd} {io : List Bool} {vs : List V} {xs : List (Option T)} {ts us : List T} (s : Sim K F H σ ρ fp) (ar : ArgsR K F H σ fp os vs xs B) (fi : fins os xs ρ = some ts) (ha : argT io ts = some us) (hl : lendC os io = true) :
    vs.length = us.length ∧ Sim K (Fr F H (borrowed os io fp B)) H (vs.map some) (us.map some) (lentFp os io fp) := by
  have hio : ioC os io = true := by unfold lendC at hl; simp only [Bool.and_eq_true] at hl; exact hl.1.1
  have hl1 : (List.range os.length).all (fun i => (List.range os.length).all fun k => i == k || lentAt os io i == none || lentAt os io i != lentAt os io k) = true := by
    unfold lendC at hl; simp only [Bool.and_eq_true] at hl; exact hl.1.2
  have hl2 : (borS os io).all (fun j => (List.range os.length).all fun i => lentAt os io i != some j) = true := by
    unfold lendC at hl; simp only [Bool.and_eq_true] at hl; exact hl.2
  have llt : ∀ {i j : Nat}, lentAt os io i = some j → i < os.length := fun {i j} q => by
    unfold lentAt at q
    cases c : os[i]? with
    | none => rw [c] at q; simp at q
    | some o => exact (List.getElem?_eq_some_iff.mp c).1
  have cell : ∀ {i : Nat} {a : Addr}, a ∈ lentFp os io fp i → ∃ j, lentAt os io i = some j ∧ a ∈ fp j := fun {i a} h => by
    unfold lentFp at h
    cases c : lentAt os io i with
    | none => rw [c] at h; simp at h
    | some j => rw [c] at h; exact ⟨j, rfl, h⟩
  obtain ⟨tl, tf, td⟩ := ar.temps
  obtain ⟨l1, l2, z⟩ := lend_args (B := borrowed os io fp B) s.sub s ar fi ha hio (fun a h => List.mem_append_left _ h) fun j hj a h => List.mem_append_right _ (List.mem_flatMap.mpr ⟨j, hj, h⟩)
  refine ⟨l1, by simp [l1], fun i t h => ?_, fun i k n a h1 h2 => ?_, fun i a h => ?_, fun i a h => ?_, Fr.sub s.sub⟩
  · rw [List.getElem?_map] at h
    cases q : us[i]? with
    | none => rw [q] at h; simp at h
    | some u =>
      rw [q] at h
      simp at h
      subst h
      obtain ⟨v, e, r⟩ := z i u q
      exact ⟨v, by rw [List.getElem?_map, e]; rfl, r⟩
  · obtain ⟨j, e1, y1⟩ := cell h1
    obtain ⟨j', e2, y2⟩ := cell h2
    by_cases c : j = j'
    · subst c
      have w := List.all_eq_true.mp (List.all_eq_true.mp hl1 i (by simpa using llt e1)) k (by simpa using llt e2)
      simp [e1, e2] at w
      exact n w
    · exact s.dj j j' c a y1 y2
  · obtain ⟨j, e1, y1⟩ := cell h
    cases q : Fr F H (borrowed os io fp B) a with
    | none => rfl
    | some o =>
      obtain ⟨u, e, nt⟩ := s.mt j a y1
      rcases Fr.inv q with w | ⟨w, w2⟩
      · rw [s.ff j a y1] at w; cases w
      · rcases w2 with w2 | w2
        · rw [e] at w; cases w; rw [nt] at w2; cases w2
        · rcases List.mem_append.mp w2 with w2 | w2
          · exact absurd y1 (td a w2 j)
          · obtain ⟨k, hk, w2⟩ := List.mem_flatMap.mp w2
            by_cases c : j = k
            · subst c
              have w := List.all_eq_true.mp (List.all_eq_true.mp hl2 j hk) i (by simpa using llt e1)
              simp [e1] at w
            · exact absurd w2 (s.dj j k c a y1)
  · obtain ⟨j, e1, y1⟩ := cell h
    exact s.mt j a y1
theorem user_ok {K : Par} {W : XW} {n : Nat} {fn : FnT} {io : List Bool} {os : List Opd} (f : os.all Opd.fine = true) (hn : io.length = n) {σ : St} {H : Hp} {Q : VK} (g : tG K W (gUser fn io os) σ H Q) : tOs K W os σ H fun vs H1 => spT K n fn vs H1 Q (W σ) := by
  obtain ⟨ρ, F, fp, s, o⟩ := g
  refine gOs_run f (Ext.refl F H fp) s o fun vs xs ts ρ' F' H' fp' B s' x ar fi _ o => ?_
  cases q : argT io ts with
  | none => rw [q] at o; exact o.elim
  | some us =>
    rw [q] at o
    simp only at o
    split at o
    · rename_i hl
      obtain ⟨l1, sc⟩ := lend_sim s' ar fi q hl
      have l2 : us.length = io.length := argLen q
      refine ⟨by omega, _, _, us, sc, ?_⟩
      cases qf : fn us with
      | bad => rw [qf] at o; exact o.elim
      | ret t back =>
        rw [qf] at o
        intro v F2 H2 fp2 A s2 m2 x2
        obtain ⟨G, fp3, s3, x3, tm, _, _⟩ := lend_back x s' ar hl s2 x2 (indep t && backC io back) fun hm i j u hl2 hu => by
          simp only [Bool.and_eq_true] at hm
          exact backC_at hm.2 hl2 hu
        exact o v G H2 fp3 A s3 (tm v t A m2 (fun _ z => z) fun hm => by simp only [Bool.and_eq_true] at hm; exact hm.1) x3
      | ex c u back =>
        rw [qf] at o
        intro d F2 H2 fp2 A s2 m2 x2
        obtain ⟨G, fp3, s3, x3, tm, ta, tn⟩ := lend_back x s' ar hl s2 x2 (indepX u && backC io back) fun hm i j u hl2 hu => by
          simp only [Bool.and_eq_true] at hm
          exact backC_at hm.2 hl2 hu
        refine o d G H2 fp3 A s3 ?_ x3
        cases u with
        | none => exact m2
        | some p =>
          obtain ⟨y, t⟩ := p
          obtain ⟨dd, v, B2, e1, e2, mt, e3, e4, e5, e6⟩ := m2
          subst e3
          exact ⟨dd, v, B2, e1, e2, tm v t B2 mt (fun a z => List.mem_cons_of_mem _ z) (fun hm => by simp only [Bool.and_eq_true, indepX] at hm; exact hm.1), rfl, e4, ta dd List.mem_cons_self e5, tn dd e6⟩
    · exact o.elim
where
  argLen : ∀ {io : List Bool} {ts us : List T}, argT io ts = some us → us.length = io.length
    | [], [], us, h => by simp [argT] at h; subst h; rfl
    | [], _ :: _, us, h => by simp [argT] at h
    | true :: io, [], us, h => by simp [argT] at h
    | false :: io, [], us, h => by simp [argT] at h
    | true :: io, t :: ts, us, h => by
      simp only [argT, Option.map_eq_some_iff] at h
      obtain ⟨us', h, rfl⟩ := h
      simp [argLen h]
    | false :: io, t :: ts, us, h => by
      simp only [argT] at h
      cases q5 : frzT t with
      | none => rw [q5] at h; simp at h
      | some y =>
        cases q6 : argT io ts with
        | none => rw [q5, q6] at h; simp at h
        | some us' => rw [q5, q6] at h; simp at h; subst h; simp [argLen q6]
/-- an operand as an argument -/
def Opd.lt : Opd → Opd
  | .nm i => .nm i
  | .con v x => .con v x
  | o => .val o.vg
section
variable {X : Cx} {cls : Str → Addr} {W : XW} {e : Expr} {es : List Expr} {os : List Opd} {pos p : Pos} {o : Opd} {x : Str} {CX : CXT} {k j : Nat} {f : Addr} {fd : FuncData} {ps : List Str}
theorem DE.lt (h : DE X cls W e o) : DE X cls W e o.lt := by
  cases o with
  | nm i => exact h
  | con v x => exact h
  | val g => exact h.val
  | pk g => exact h.val
  | iv g => exact h.val
theorem DAs.lt : ∀ {es : List Expr} {os : List Opd}, DAs X cls W es os → DAs X cls W es (os.map Opd.lt)
  | _, _, .nil => .nil
  | _, _, .cons h d r => .cons h d.lt r.lt
/-- f(e, ..) -/
theorem de_user {fn : FnT} {io : List Bool} (F : FnOk X.prog X.w X.K X.mg X.base CX k f fd ps (spT (Px X cls) io.length fn)) (hr : Room j X.A) (hkj : k ≤ j) (hg : Gl X x) (hm : X.mg x = some (.ref f)) (hk : PySem.W.keepIn X.K (.ref f) = true) (hb : Binds X.K fd ps []) (hx : ∀ σ, PassesAt CX X σ (W σ))
    (hdb : (x == ("__debug__" : Str)) = false) (h : DAs X cls W (e :: es) os) : DE X cls W (.Call (.Name x p) (e :: es) [] pos) (.val (gUser fn io (os.map Opd.lt))) := by
  have hst : anyStar (e :: es) = false := h.star
  simp only [anyStar, List.any_cons, Bool.or_eq_false_iff] at hst
  exact ⟨(pe_callS F (hr.mono hkj) hg hm hk hb hx h.lt.pa hdb (star_cons hst.1) (star_none hst.2)).imp fun σ H Q q => user_ok h.lt.fine rfl q, rfl⟩
end

/-! ### a def by its body -/
def backS (st : List Nat) (n : Nat) (ρ : Rho) : Rho := (ρ.take n).mapIdx fun i u => if i ∈ st then none else u
def fnOf (n N : Nat) (st : List Nat) (g : SG) : FnT := fun ts => match g (ts.map some ++ List.replicate (N - n) none) with
  | .nx ρ => .ret (.d .none) (backS st n ρ)
  | .rt t ρ => .ret t (backS st n ρ)
  | .ex c f ρ => .ex c f (backS st n ρ)
  | _ => .bad
theorem backS_sim {K : Par} {F H : Hp} {σ : St} {ρ : Rho} {fp : Nat → List Addr} {vs : List V} {N : Nat} {st : List Nat} (s : Sim K F H σ ρ fp) (ag : Ag st (vs.map some ++ List.replicate N none) σ) : Sim K F H (vs.map some) (backS st vs.length ρ) fp := by
  have hl : σ.length = vs.length + N := by rw [ag.1]; simp
  refine ⟨?_, fun i t h => ?_, s.dj, s.ff, s.mt, s.sub⟩
  · have := s.len
    simp [backS]; omega
  · unfold backS at h
    rw [List.getElem?_mapIdx, List.getElem?_take] at h
    by_cases li : i < vs.length
    · rw [if_pos li] at h
      cases q : ρ[i]? with
      | none => rw [q] at h; simp at h
      | some u =>
        rw [q] at h
        simp only [Option.map_some, Option.some.injEq] at h
        by_cases c : i ∈ st
        · rw [if_pos c] at h; cases h
        · rw [if_neg c] at h
          subst h
          obtain ⟨v, e, r⟩ := s.sl i t q
          rw [ag.2 i c, List.getElem?_append_left (by simpa using li)] at e
          exact ⟨v, e, r⟩
    · rw [if_neg li] at h; simp at h
theorem body_ok {K : Par} {W : XW} {n : Nat} {N : List Str} {st : List Nat} {g : SG} {vs : List V} {H : Hp} {Q : VK} {E : XK} (hW : ∀ σ c d H, E c d H → W σ c d H) (h : spT K n (fnOf n N.length st g) vs H Q E) : tS K W st g { nx := fun _ H' => Q .non H', rt := Q } (L2.start N vs) H := by
  obtain ⟨hl, F, fp, ts, s, o⟩ := h
  have ht : ts.length = n := by have := s.len; simp at this; omega
  refine ⟨ts.map some ++ List.replicate (N.length - n) none, F, fp, ?_, ?_⟩
  · unfold L2.start
    rw [hl]
    refine ⟨by simp [hl, ht], fun i t h => ?_, s.dj, s.ff, s.mt, s.sub⟩
    by_cases c : i < n
    · rw [List.getElem?_append_left (by simp [ht, c])] at h
      rw [List.getElem?_append_left (by simp [hl, c])]
      exact s.sl i t h
    · rw [List.getElem?_append_right (by simp [ht]; omega)] at h
      rw [List.getElem?_replicate] at h
      split at h <;> cases h
  · have hs : L2.start N vs = vs.map some ++ List.replicate (N.length - vs.length) none := rfl
    rw [hs]
    have mt : ∀ {F' H' : Hp} {fp' : Nat → List Addr}, (∀ b, b ∈ ([] : List Addr) → F' b = none) := fun b z => by simp at z
    unfold fnOf at o
    cases q : g (ts.map some ++ List.replicate (N.length - n) none) with
    | bad => rw [q] at o; exact o.elim
    | ct ρ => rw [q] at o; exact o.elim
    | nx ρ =>
      rw [q] at o
      exact fun σ' F' H' fp' s' x ag => o .non F' H' fp' [] (hl ▸ backS_sim s' ag) (Tmp.frz .non) x
    | rt t ρ =>
      rw [q] at o
      exact fun v σ' F' H' fp' A s' m x ag => o v F' H' fp' A (hl ▸ backS_sim s' ag) m x
    | ex c f ρ =>
      rw [q] at o
      exact fun d σ' F' H' fp' A s' m x ag => hW _ _ _ _ (o d F' H' fp' A (hl ▸ backS_sim s' ag) m x)
end Hu
set_option Elab.async false
set_option linter.all false
set_option maxRecDepth 100000
/-! HuO: lists changed where they lie. -/
namespace Hu
open PySem L2
section
variable {K : Par} {F H : Hp}
theorem RA.split : ∀ {ts1 : List T} {vs : List V} {ts2 : List T} {A : List Addr}, RA K F H vs (ts1 ++ ts2) A → ∃ vs1 vs2 A1 A2, vs = vs1 ++ vs2 ∧ RA K F H vs1 ts1 A1 ∧ RA K F H vs2 ts2 A2 ∧ A = A1 ++ A2 ∧ ∀ a, a ∈ A1 → a ∉ A2
  | [], vs, ts2, A, h => ⟨[], vs, [], A, rfl, .nil, h, rfl, fun a h => by simp at h⟩
  | t :: ts1, _, ts2, _, .cons (v := v) (A := A) h1 h2 n => by
    obtain ⟨vs1, vs2, A1, A2, rfl, r1, r2, rfl, d⟩ := RA.split h2
    refine ⟨v :: vs1, vs2, A ++ A1, A2, rfl, .cons h1 r1 fun a z w => n a z (List.mem_append_left _ w), r2, by simp, fun a z w => ?_⟩
    rcases List.mem_append.mp z with z | z
    · exact n a z (List.mem_append_right _ w)
    · exact d a z w
theorem RA.join : ∀ {vs1 : List V} {ts1 : List T} {A1 : List Addr} {vs2 : List V} {ts2 : List T} {A2 : List Addr}, RA K F H vs1 ts1 A1 → RA K F H vs2 ts2 A2 → (∀ a, a ∈ A1 → a ∉ A2) → RA K F H (vs1 ++ vs2) (ts1 ++ ts2) (A1 ++ A2)
  | _, _, _, _, _, _, .nil, h, _ => by simpa using h
  | _, _, _, _, _, _, .cons h1 h2 n, h, d => by
    have := RA.cons h1 (RA.join h2 h fun a z => d a (List.mem_append_right _ z)) fun a z w => by
      rcases List.mem_append.mp w with w | w
      · exact n a z w
      · exact d a (List.mem_append_left _ z) w
    simpa using this
theorem RA.rev : ∀ {vs : List V} {ts : List T} {A : List Addr}, RA K F H vs ts A → ∃ A', RA K F H vs.reverse ts.reverse A' ∧ ∀ a, a ∈ A' → a ∈ A
  | _, _, _, .nil => ⟨[], .nil, fun a h => h⟩
  | _, _, _, .cons (A := A) (B := B) h1 h2 n => by
    obtain ⟨A', r, i⟩ := RA.rev h2
    refine ⟨A' ++ (A ++ []), by simpa using RA.join r (RA.cons h1 .nil (by simp)) (fun a z w => n a (by simpa using w) (i a z)), fun a z => ?_⟩
    rcases List.mem_append.mp z with z | z
    · exact List.mem_append_right _ (i a z)
    · exact List.mem_append_left _ (by simpa using z)
theorem RA.one {v : V} {t : T} {A : List Addr} (h : R K F H v t A) : RA K F H [v] [t] A := by simpa using RA.cons h .nil (by simp)
theorem RA.one' : ∀ {vs : List V} {t : T} {A : List Addr}, RA K F H vs [t] A → ∃ v, vs = [v] ∧ R K F H v t A
  | _, _, _, .cons h1 .nil _ => ⟨_, rfl, by simpa using h1⟩

/-! ### a tree within a tree -/
structure Loc (K : Par) (F H : Hp) (v : V) (t : T) (A : List Addr) (v' : V) (t' : T) (A' : List Addr) (put : T → T) : Prop where
  r : R K F H v' t' A'
  sub : ∀ a, a ∈ A' → a ∈ A
  put : ∀ F' H' t2 A2, Same F F' → TupSub H H' → (∀ a, a ∈ A → a ∉ A' → H' a = H a) → R K F' H' v' t2 A2 → (∀ a, a ∈ A2 → a ∈ A → a ∈ A') → ∃ A3, R K F' H' v (put t2) A3 ∧ ∀ a, a ∈ A3 → a ∈ A2 ∨ (a ∈ A ∧ a ∉ A')
variable {v v1 v2 : V} {t t1 t2 : T} {A A1 A2 : List Addr} {p1 p2 : T → T}
theorem Loc.refl (r : R K F H v t A) : Loc K F H v t A v t A id := ⟨r, fun _ h => h, fun F' H' t2 A2 _ _ _ r _ => ⟨A2, r, fun a h => .inl h⟩⟩
theorem Loc.trans (l : Loc K F H v t A v1 t1 A1 p1) (m : Loc K F H v1 t1 A1 v2 t2 A2 p2) : Loc K F H v t A v2 t2 A2 (fun u => p1 (p2 u)) := by
  refine ⟨m.r, fun a h => l.sub a (m.sub a h), fun F' H' u U e s k r i => ?_⟩
  obtain ⟨A3, r3, i3⟩ := m.put F' H' u U e s (fun a h n => k a (l.sub a h) n) r fun a h z => i a h (l.sub a z)
  obtain ⟨A4, r4, i4⟩ := l.put F' H' _ A3 e s (fun a h n => k a h fun z => n (m.sub a z)) r3 fun a h z => by
    rcases i3 a h with h | h
    · exact m.sub a (i a h z)
    · exact h.1
  refine ⟨A4, r4, fun a h => ?_⟩
  rcases i4 a h with h | ⟨h, n⟩
  · rcases i3 a h with h | ⟨h, n⟩
    · exact .inl h
    · exact .inr ⟨l.sub a h, n⟩
  · exact .inr ⟨h, fun z => n (m.sub a z)⟩
theorem Loc.frame {F' H' : Hp} (l : Loc K F H v t A v1 t1 A1 p1) (e : Same F F') (s : TupSub H H') (k : ∀ a, a ∈ A → H' a = H a) : Loc K F' H' v t A v1 t1 A1 p1 :=
  ⟨l.r.frame e s fun a h => k a (l.sub a h), l.sub, fun F2 H2 u U e2 s2 k2 r i => l.put F2 H2 u U (e.trans e2) (fun a xs h => s2 a xs (s a xs h)) (fun a h n => (k2 a h n).trans (k a h)) r i⟩
theorem RA.loc : ∀ {vs : List V} {ts : List T} {A : List Addr} {j : Nat} {t' : T}, RA K F H vs ts A → ts[j]? = some t' → ∃ v' A', vs[j]? = some v' ∧ R K F H v' t' A' ∧ (∀ a, a ∈ A' → a ∈ A) ∧
    ∀ F' H' t2 A2, Same F F' → TupSub H H' → (∀ a, a ∈ A → a ∉ A' → H' a = H a) → R K F' H' v' t2 A2 → (∀ a, a ∈ A2 → a ∈ A → a ∈ A') → ∃ A3, RA K F' H' vs (ts.set j t2) A3 ∧ ∀ a, a ∈ A3 → a ∈ A2 ∨ (a ∈ A ∧ a ∉ A')
  | _, _, _, _, _, .nil, h => by simp at h
  | _, _, _, 0, _, .cons (v := v) (A := A) (B := B) h1 h2 n, h => by
    simp at h; subst h
    refine ⟨v, A, rfl, h1, fun a z => List.mem_append_left _ z, fun F' H' t2 A2 e s k r i => ⟨A2 ++ B, .cons r (h2.frame e s fun a z => k a (List.mem_append_right _ z) fun w => n a w z) fun a z w => ?_, fun a z => ?_⟩⟩
    · exact n a (i a z (List.mem_append_right _ w)) w
    · rcases List.mem_append.mp z with z | z
      · exact .inl z
      · exact .inr ⟨List.mem_append_right _ z, fun w => n a w z⟩
  | _, _, _, j + 1, _, .cons (v := v) (A := A) (B := B) h1 h2 n, h => by
    obtain ⟨v', A', e0, r0, i0, put⟩ := RA.loc (j := j) h2 (by simpa using h)
    refine ⟨v', A', by simpa using e0, r0, fun a z => List.mem_append_right _ (i0 a z), fun F' H' t2 A2 e s k r i => ?_⟩
    obtain ⟨A3, r3, i3⟩ := put F' H' t2 A2 e s (fun a z w => k a (List.mem_append_right _ z) w) r fun a z w => i a z (List.mem_append_right _ w)
    refine ⟨A ++ A3, .cons (h1.frame e s fun a z => k a (List.mem_append_left _ z) fun w => n a z (i0 a w)) r3 fun a z w => ?_, fun a z => ?_⟩
    · rcases i3 a w with w | ⟨w, _⟩
      · exact n a z (i0 a (i a w (List.mem_append_left _ z)))
      · exact n a z w
    · rcases List.mem_append.mp z with z | z
      · exact .inr ⟨List.mem_append_left _ z, fun w => n a z (i0 a w)⟩
      · rcases i3 a z with z | ⟨z, w⟩
        · exact .inl z
        · exact .inr ⟨List.mem_append_right _ z, w⟩
theorem Loc.item {a : Addr} {ts : List T} {vs : List V} {j : Nat} {t' : T} (hH : H a = some (.lst vs)) (ra : RA K F H vs ts A) (n : a ∉ A) (h : ts[j]? = some t') : ∃ v' A', vs[j]? = some v' ∧ Loc K F H (.ref a) (.lst ts) (a :: A) v' t' A' (fun u => .lst (ts.set j u)) := by
  obtain ⟨v', A', e0, r0, i0, put⟩ := RA.loc ra h
  refine ⟨v', A', e0, r0, fun b z => List.mem_cons_of_mem _ (i0 b z), fun F' H' t2 A2 e s k r i => ?_⟩
  obtain ⟨A3, r3, i3⟩ := put F' H' t2 A2 e s (fun b z w => k b (List.mem_cons_of_mem _ z) w) r fun b z w => i b z (List.mem_cons_of_mem _ w)
  have na : a ∉ A' := fun z => n (i0 a z)
  refine ⟨a :: A3, .lst ((k a List.mem_cons_self na).trans hH) r3 fun z => ?_, fun b z => ?_⟩
  · rcases i3 a z with z | ⟨z, _⟩
    · exact na (i a z List.mem_cons_self)
    · exact n z
  · rcases List.mem_cons.mp z with rfl | z
    · exact .inr ⟨List.mem_cons_self, na⟩
    · rcases i3 b z with z | ⟨z, w⟩
      · exact .inl z
      · exact .inr ⟨List.mem_cons_of_mem _ z, w⟩
/-- a list within a slot's tree written -/
theorem mut_loc {σ : St} {ρ : Rho} {fp fp0 : Nat → List Addr} {F0 H0 : Hp} {B : List Addr} (s : Sim K F H σ ρ fp) {i : Nat} {a : Addr} {xs ys : List T} {A' C : List Addr} {put : T → T} (hv : σ[i]? = some (some v)) (ht : ρ[i]? = some (some t)) (L : Loc K F H v t (fp i) (.ref a) (.lst xs) (a :: A') put) (x : Ext F0 H0 fp0 F H fp B)
    (bl : Live H B) (bf : ∀ b, b ∈ B → F b = none) (bd : ∀ b, b ∈ B → ∀ j, b ∉ fp j) {vs1 : List V} {rv : V} {rt : T} (na : a ∉ A') (lk : ∃ vs0, H a = some (.lst vs0)) (h1 : RA K F H vs1 ys A1) (h2 : R K F H rv rt C) (i1 : ∀ b, b ∈ A1 → b ∈ A' ∨ b ∈ B) (i2 : ∀ b, b ∈ C → b ∈ A' ∨ b ∈ B) (d : ∀ b, b ∈ A1 → b ∉ C) :
    ∃ fp1, Sim K F (upd H a (.lst vs1)) σ (ρ.set i (some (put (.lst ys)))) fp1 ∧ Tmp K F (upd H a (.lst vs1)) fp1 rv rt C ∧ Ext F0 H0 fp0 F (upd H a (.lst vs1)) fp1 C := by
  obtain ⟨vs0, lk⟩ := lk
  have ai : a ∈ fp i := L.sub a List.mem_cons_self
  have aB : a ∉ B := fun z => bd a z i ai
  have aA1 : a ∉ A1 := fun z => by rcases i1 a z with z | z; exact na z; exact aB z
  have aC : a ∉ C := fun z => by rcases i2 a z with z | z; exact na z; exact aB z
  have tu : TupSub H (upd H a (.lst vs1)) := fun b xs h => by
    by_cases c : b = a
    · subst c; rw [lk] at h; cases h
    · rw [upd_ne c]; exact h
  have st : ∀ b, b ≠ a → (upd H a (.lst vs1)) b = H b := fun b n => upd_ne n
  obtain ⟨A3, r3, i3⟩ := L.put F (upd H a (.lst vs1)) (.lst ys) (a :: A1) (Same.refl F) tu (fun b hb nb => st b fun e => nb (e ▸ List.mem_cons_self)) (.lst upd_same (h1.frame (Same.refl F) tu fun b hb => st b fun e => aA1 (e ▸ hb)) aA1) fun b hb hi => by
    (rcases List.mem_cons.mp hb with rfl | hb)
    · exact List.mem_cons_self
    · rcases i1 b hb with z | z
      · exact List.mem_cons_of_mem _ z
      · exact absurd hi (bd b z i)
  have c3 : ∀ b, b ∈ A3 → b ∈ fp i ∨ b ∈ B := fun b hb => by
    rcases i3 b hb with z | ⟨z, _⟩
    · rcases List.mem_cons.mp z with rfl | z
      · exact .inl ai
      · rcases i1 b z with z | z
        · exact .inl (L.sub b (List.mem_cons_of_mem _ z))
        · exact .inr z
    · exact .inl z
  have cC : ∀ b, b ∈ C → b ∈ fp i ∨ b ∈ B := fun b hb => by
    rcases i2 b hb with z | z
    · exact .inl (L.sub b (List.mem_cons_of_mem _ z))
    · exact .inr z
  have hlt : i < ρ.length := (List.getElem?_eq_some_iff.mp ht).1
  have live1 : ∀ b, (∃ o, H b = some o ∧ isT o = false) → ∃ o, (upd H a (.lst vs1)) b = some o ∧ isT o = false := fun b ⟨o, e, q⟩ => by
    by_cases c : b = a
    · subst c; exact ⟨_, upd_same, rfl⟩
    · exact ⟨o, by rw [st b c]; exact e, q⟩
  have nf : F a = none := s.ff i a ai
  have ownB : ∀ b, b ∈ fp i ∨ b ∈ B → (∃ j, b ∈ fp0 j) ∨ H0 b = none := fun b h => by
    rcases h with h | h
    · exact x.own b (.inr ⟨i, h⟩)
    · exact x.own b (.inl h)
  refine ⟨fun j => if j = i then A3 else fp j, ⟨by simpa using s.len, fun j u h => ?_, fun j k n b hb hc => ?_, fun j b h => ?_, fun j b h => ?_, fun b o h => ?_⟩, ⟨h2.frame (Same.refl F) tu fun b hb => st b fun e => aC (e ▸ hb), fun b hb j hj => ?_, fun b hb => ?_⟩, ?_⟩
  · by_cases c : j = i
    · subst c
      rw [List.getElem?_set_self hlt] at h
      cases h
      exact ⟨v, hv, by rw [if_pos rfl]; exact r3⟩
    · rw [List.getElem?_set_ne (Ne.symm c)] at h
      obtain ⟨w, e, r⟩ := s.sl j u h
      exact ⟨w, e, by rw [if_neg c]; exact r.frame (Same.refl F) tu fun b hb => st b fun e => s.dj j i c b hb (e ▸ ai)⟩
  · split at hb
    · split at hc
      · rename_i e1 e2; exact n (e1.trans e2.symm)
      · rename_i e1 e2
        rcases c3 b hb with z | z
        · exact s.dj i k (fun e => e2 e.symm) b z hc
        · exact bd b z k hc
    · split at hc
      · rename_i e1 e2
        rcases c3 b hc with z | z
        · exact s.dj i j (fun e => e1 e.symm) b z hb
        · exact bd b z j hb
      · exact s.dj j k n b hb hc
  · split at h
    · rcases c3 b h with z | z
      · exact s.ff i b z
      · exact bf b z
    · exact s.ff j b h
  · split at h
    · rcases c3 b h with z | z
      · exact live1 b (s.mt i b z)
      · exact live1 b (bl b z)
    · exact live1 b (s.mt j b h)
  · have : b ≠ a := fun c => by subst c; rw [nf] at h; cases h
    rw [st b this]; exact s.sub b o h
  · split at hj
    · rename_i e
      rcases i3 b hj with z | ⟨z, w⟩
      · rcases List.mem_cons.mp z with rfl | z
        · exact aC hb
        · exact d b z hb
      · rcases i2 b hb with y | y
        · exact w (List.mem_cons_of_mem _ y)
        · exact bd b y i z
    · rename_i e
      rcases cC b hb with z | z
      · exact s.dj i j (fun q => e q.symm) b z hj
      · exact bd b z j hj
  · rcases cC b hb with z | z
    · exact s.ff i b z
    · exact bf b z
  · have y := x.poke (D := a) (o := .lst vs1) (x.own a (.inr ⟨i, ai⟩))
    refine ⟨y.keep, y.fsub, y.fnew, fun b hb => ?_⟩
    rcases hb with hb | ⟨j, hb⟩
    · exact ownB b (cC b hb)
    · split at hb
      · exact ownB b (c3 b hb)
      · exact x.own b (.inr ⟨j, hb⟩)
/-- a cell within a slot's tree written -/
theorem mut_gen {σ : St} {ρ : Rho} {fp fp0 : Nat → List Addr} {F0 H0 : Hp} {B : List Addr} (s : Sim K F H σ ρ fp) {i : Nat} {a : Addr} {u u2 : T} {ho : HO} {A' C : List Addr} {put : T → T} (hv : σ[i]? = some (some v)) (ht : ρ[i]? = some (some t)) (L : Loc K F H v t (fp i) (.ref a) u (a :: A') put) (x : Ext F0 H0 fp0 F H fp B)
    (bl : Live H B) (bf : ∀ b, b ∈ B → F b = none) (bd : ∀ b, b ∈ B → ∀ j, b ∉ fp j) {rv : V} {rt : T} (na : a ∉ A') (ht0 : isT ho = false) (h1 : TupSub H (upd H a ho) → (∀ b, b ≠ a → (upd H a ho) b = H b) → R K F (upd H a ho) (.ref a) u2 (a :: A1)) (h2 : R K F H rv rt C) (i1 : ∀ b, b ∈ A1 → b ∈ A' ∨ b ∈ B) (i2 : ∀ b, b ∈ C → b ∈ A' ∨ b ∈ B) (d : ∀ b, b ∈ A1 → b ∉ C) :
    ∃ fp1, Sim K F (upd H a ho) σ (ρ.set i (some (put u2))) fp1 ∧ Tmp K F (upd H a ho) fp1 rv rt C ∧ Ext F0 H0 fp0 F (upd H a ho) fp1 C := by
  have ai : a ∈ fp i := L.sub a List.mem_cons_self
  have aB : a ∉ B := fun z => bd a z i ai
  have aC : a ∉ C := fun z => by rcases i2 a z with z | z; exact na z; exact aB z
  have tu : TupSub H (upd H a ho) := fun b xs h => by
    by_cases c : b = a
    · subst c
      obtain ⟨o, e, nt⟩ := s.mt i b ai
      rw [h] at e; cases e; cases nt
    · rw [upd_ne c]; exact h
  have st : ∀ b, b ≠ a → (upd H a ho) b = H b := fun b n => upd_ne n
  obtain ⟨A3, r3, i3⟩ := L.put F (upd H a ho) u2 (a :: A1) (Same.refl F) tu (fun b hb nb => st b fun e => nb (e ▸ List.mem_cons_self)) (h1 tu st) fun b hb hi => by
    (rcases List.mem_cons.mp hb with rfl | hb)
    · exact List.mem_cons_self
    · rcases i1 b hb with z | z
      · exact List.mem_cons_of_mem _ z
      · exact absurd hi (bd b z i)
  have c3 : ∀ b, b ∈ A3 → b ∈ fp i ∨ b ∈ B := fun b hb => by
    rcases i3 b hb with z | ⟨z, _⟩
    · rcases List.mem_cons.mp z with rfl | z
      · exact .inl ai
      · rcases i1 b z with z | z
        · exact .inl (L.sub b (List.mem_cons_of_mem _ z))
        · exact .inr z
    · exact .inl z
  have cC : ∀ b, b ∈ C → b ∈ fp i ∨ b ∈ B := fun b hb => by
    rcases i2 b hb with z | z
    · exact .inl (L.sub b (List.mem_cons_of_mem _ z))
    · exact .inr z
  have hlt : i < ρ.length := (List.getElem?_eq_some_iff.mp ht).1
  have live1 : ∀ b, (∃ o, H b = some o ∧ isT o = false) → ∃ o, (upd H a ho) b = some o ∧ isT o = false := fun b ⟨o, e, q⟩ => by
    by_cases c : b = a
    · subst c; exact ⟨_, upd_same, ht0⟩
    · exact ⟨o, by rw [st b c]; exact e, q⟩
  have nf : F a = none := s.ff i a ai
  have ownB : ∀ b, b ∈ fp i ∨ b ∈ B → (∃ j, b ∈ fp0 j) ∨ H0 b = none := fun b h => by
    rcases h with h | h
    · exact x.own b (.inr ⟨i, h⟩)
    · exact x.own b (.inl h)
  refine ⟨fun j => if j = i then A3 else fp j, ⟨by simpa using s.len, fun j u h => ?_, fun j k n b hb hc => ?_, fun j b h => ?_, fun j b h => ?_, fun b o h => ?_⟩, ⟨h2.frame (Same.refl F) tu fun b hb => st b fun e => aC (e ▸ hb), fun b hb j hj => ?_, fun b hb => ?_⟩, ?_⟩
  · by_cases c : j = i
    · subst c
      rw [List.getElem?_set_self hlt] at h
      cases h
      exact ⟨v, hv, by rw [if_pos rfl]; exact r3⟩
    · rw [List.getElem?_set_ne (Ne.symm c)] at h
      obtain ⟨w, e, r⟩ := s.sl j u h
      exact ⟨w, e, by rw [if_neg c]; exact r.frame (Same.refl F) tu fun b hb => st b fun e => s.dj j i c b hb (e ▸ ai)⟩
  · split at hb
    · split at hc
      · rename_i e1 e2; exact n (e1.trans e2.symm)
      · rename_i e1 e2
        rcases c3 b hb with z | z
        · exact s.dj i k (fun e => e2 e.symm) b z hc
        · exact bd b z k hc
    · split at hc
      · rename_i e1 e2
        rcases c3 b hc with z | z
        · exact s.dj i j (fun e => e1 e.symm) b z hb
        · exact bd b z j hb
      · exact s.dj j k n b hb hc
  · split at h
    · rcases c3 b h with z | z
      · exact s.ff i b z
      · exact bf b z
    · exact s.ff j b h
  · split at h
    · rcases c3 b h with z | z
      · exact live1 b (s.mt i b z)
      · exact live1 b (bl b z)
    · exact live1 b (s.mt j b h)
  · have : b ≠ a := fun c => by subst c; rw [nf] at h; cases h
    rw [st b this]; exact s.sub b o h
  · split at hj
    · rename_i e
      rcases i3 b hj with z | ⟨z, w⟩
      · rcases List.mem_cons.mp z with rfl | z
        · exact aC hb
        · exact d b z hb
      · rcases i2 b hb with y | y
        · exact w (List.mem_cons_of_mem _ y)
        · exact bd b y i z
    · rename_i e
      rcases cC b hb with z | z
      · exact s.dj i j (fun q => e q.symm) b z hj
      · exact bd b z j hj
  · rcases cC b hb with z | z
    · exact s.ff i b z
    · exact bf b z
  · have y := x.poke (D := a) (o := ho) (x.own a (.inr ⟨i, ai⟩))
    refine ⟨y.keep, y.fsub, y.fnew, fun b hb => ?_⟩
    rcases hb with hb | ⟨j, hb⟩
    · exact ownB b (cC b hb)
    · split at hb
      · exact ownB b (c3 b hb)
      · exact x.own b (.inr ⟨j, hb⟩)
end
end Hu
set_option Elab.async false
set_option linter.all false
set_option maxRecDepth 100000
/-! HuP: methods of lists, stores into lists. -/
namespace Hu
open PySem L2
abbrev MutF := List T → List T → Option (T × List T)
def gMut (i : Nat) (os : List Opd) (m : MutF) : G T := fun ρ => match getS ρ i with
  | some (.lst _) => gOs os (fun ts ρ => match getS ρ i with
    | some (.lst xs) => match m xs ts with
      | some (res, ys) => .ok res (ρ.set i (some (.lst ys)))
      | none => .bad
    | _ => .bad) ρ
  | _ => .bad
/-- the arguments go into the list -/
def MutO (K : Par) (r : V → List V → Hp → VK → Prop) (m : MutF) : Prop := ∀ F H a vs0 xs A' vs ts B res ys, Same F H → H a = some (.lst vs0) → RA K F H vs0 xs A' → RA K F H vs ts B → (∀ b, b ∈ A' → b ∉ B) → m xs ts = some (res, ys) → ∀ Q : VK,
  (∀ vs1 A1 rv C, RA K F H vs1 ys A1 → R K F H rv res C → (∀ b, b ∈ A1 → b ∈ A' ∨ b ∈ B) → (∀ b, b ∈ C → b ∈ A' ∨ b ∈ B) → (∀ b, b ∈ A1 → b ∉ C) → Q rv (upd H a (.lst vs1))) → r (.ref a) vs H Q
/-- .. are looked at -/
def MutP (K : Par) (r : V → List V → Hp → VK → Prop) (m : MutF) : Prop := ∀ F H a vs0 xs A' vs ts res ys, Same F H → H a = some (.lst vs0) → RA K F H vs0 xs A' → Paired (fun v t => ∃ A, R K F H v t A) vs ts → m xs ts = some (res, ys) → ∀ Q : VK,
  (∀ vs1 A1 rv C, RA K F H vs1 ys A1 → R K F H rv res C → (∀ b, b ∈ A1 → b ∈ A') → (∀ b, b ∈ C → b ∈ A') → (∀ b, b ∈ A1 → b ∉ C) → Q rv (upd H a (.lst vs1))) → r (.ref a) vs H Q
theorem mutO_ok {K : Par} {W : XW} {r : V → List V → Hp → VK → Prop} {m : MutF} {i : Nat} {gs : List (G T)} (hm : MutO K r m) {σ : St} {H : Hp} {Q : VK} (q : tG K W (gMut i (gs.map .val) m) σ H Q) : ∃ v, σ[i]? = some (some v) ∧ tyV K.K "list" v H ∧ tOs K W (gs.map .val) σ H fun vs H1 => r v vs H1 Q := by
  obtain ⟨ρ, F, fp, s, q⟩ := q
  unfold gMut at q
  split at q
  · rename_i xs0 h0
    obtain ⟨v, hv, r0⟩ := s.sl i _ (getS_some h0)
    refine ⟨v, hv, ?_, ?_⟩
    · generalize fp i = A0 at r0
      cases r0 with
      | lst h1 _ _ => exact .inl ⟨rfl, _, .of h1⟩
    · refine gOs_run (by simp [Opd.fine]) (Ext.refl F H fp) s q fun vs xs ts ρ' F' H' fp' B s' x ar fi _ q => ?_
      obtain ⟨ra, bd, bf⟩ := ar.vals fi
      clear ar fi
      split at q
      · rename_i xs1 h1
        obtain ⟨v', hv', r1⟩ := s'.sl i _ (getS_some h1)
        rw [hv] at hv'; cases hv'
        split at q
        · rename_i res ys hmm
          generalize hA : fp' i = A0 at r1
          cases r1 with
          | @lst a vs0 _ A' e1 e2 e3 =>
            refine hm F' H' a vs0 xs1 A' vs ts B res ys s'.sub e1 e2 ra (fun b z w => bd b w i (hA ▸ List.mem_cons_of_mem _ z)) hmm Q fun vs1 A1 rv C k1 k2 k3 k4 k5 => ?_
            obtain ⟨fp2, s2, m2, x2⟩ := mut_loc (xs := xs1) (put := id) (a := a) (A' := A') s' hv (getS_some h1) (by rw [hA]; exact Loc.refl (.lst e1 e2 e3)) x ra.live bf bd e3 ⟨_, e1⟩ k1 k2 k3 k4 k5
            exact q rv F' _ fp2 C s2 m2 x2
        · exact q.elim
      · exact q.elim
  · exact q.elim
theorem mutP_ok {K : Par} {W : XW} {r : V → List V → Hp → VK → Prop} {m : MutF} {i : Nat} {os : List Opd} (hf : os.all Opd.fine = true) (hm : MutP K r m) {σ : St} {H : Hp} {Q : VK} (q : tG K W (gMut i os m) σ H Q) : ∃ v, σ[i]? = some (some v) ∧ tyV K.K "list" v H ∧ tOs K W os σ H fun vs H1 => r v vs H1 Q := by
  obtain ⟨ρ, F, fp, s, q⟩ := q
  unfold gMut at q
  split at q
  · rename_i xs0 h0
    obtain ⟨v, hv, r0⟩ := s.sl i _ (getS_some h0)
    refine ⟨v, hv, ?_, ?_⟩
    · generalize fp i = A0 at r0
      cases r0 with
      | lst h1 _ _ => exact .inl ⟨rfl, _, .of h1⟩
    · refine gOs_run hf (Ext.refl F H fp) s q fun vs xs ts ρ' F' H' fp' B s' x ar fi pr q => ?_
      clear ar fi
      split at q
      · rename_i xs1 h1
        obtain ⟨v', hv', r1⟩ := s'.sl i _ (getS_some h1)
        rw [hv] at hv'; cases hv'
        split at q
        · rename_i res ys hmm
          generalize hA : fp' i = A0 at r1
          cases r1 with
          | @lst a vs0 _ A' e1 e2 e3 =>
            refine hm F' H' a vs0 xs1 A' vs ts res ys s'.sub e1 e2 pr hmm Q fun vs1 A1 rv C k1 k2 k3 k4 k5 => ?_
            obtain ⟨fp2, s2, m2, x2⟩ := mut_loc (B := []) (xs := xs1) (put := id) (a := a) (A' := A') s' hv (getS_some h1) (by rw [hA]; exact Loc.refl (.lst e1 e2 e3)) x.nil (fun b z => absurd z (by simp)) (fun b z => absurd z (by simp)) (fun b z => absurd z (by simp)) e3 ⟨_, e1⟩ k1 k2 (fun b z => .inl (k3 b z)) (fun b z => .inl (k4 b z)) k5
            exact q rv F' _ fp2 C s2 m2 x2
        · exact q.elim
      · exact q.elim
  · exact q.elim
section
variable {X : Cx} {cls : Str → Addr} {W : XW} {e : Expr} {es : List Expr} {os : List Opd} {pos p apos : Pos} {o : Opd} {x name : Str} {id : String} {r : V → List V → Hp → VK → Prop} {m : MutF} {i : Nat}
def fewC (es : List Expr) : Bool := decide (es.length < 30)
theorem few_ok {env : Env} (hs : anyStar (e :: es) = false) (hf : fewC (e :: es) = true) : ((backTo pos (starEach (e :: es) env)).all (fun x => !x.1) && (backToKw pos (keywordEach [] env)).all (fun x => x.1.isSome)
      && decide ((e :: es).length + ([] : List Keyword).length + (if ([] : List Keyword).isEmpty then 0 else 1) < 30)) = true := by
  have h1 := star_none (env := env) (pos := pos) hs
  have h2 : (backTo pos (starEach (e :: es) env)).all (fun x => !x.1) = true := by
    rw [List.all_eq_true]
    intro y hy
    have := List.any_eq_false.mp h1 y hy
    simpa using this
  have h3 : (e :: es).length < 30 := by simpa [fewC] using hf
  rw [h2]
  simp only [Bool.true_and, Bool.and_eq_true, decide_eq_true_eq]
  exact ⟨rfl, by simpa using h3⟩
/-- x.m(e, ..): the arguments go in -/
theorem de_mutO (slot : Slot "list" name id) (hty : typeOf (.builtin id) = pure (.type "method_descriptor")) (hr : MtR X id r) (hm : MutO (Px X cls) r m) (hN : X.N[i]? = some x) (hv : Vis X.env.scope x) (hd : (x == ("__debug__" : Str)) = false) (hcd : (x == ("__classdict__" : Str)) = false)
    (h : DAs X cls W (e :: es) os) (hb : attributeBase (.Name x p) name X.env (eval (.Name x p) X.env) = eval (.Name x p) X.env) (hl : (apos.endLine == pos.line) = true) (hf : fewC (e :: es) = true) :
    DE X cls W (.Call (.Attribute (.Name x p) name apos) (e :: es) [] pos) (.val (gMut i ((os.map Opd.vg).map .val) m)) := by
  have hst : anyStar (e :: es) = false := h.star
  have hst2 := hst
  simp only [anyStar, List.any_cons, Bool.or_eq_false_iff] at hst
  have ho := h.own.pa
  rw [vals_map] at ho
  exact ⟨(pe_bm PySem.F.plainAttrs_list slot hty hr (pe_var hN hv hd hcd) ho hb (few_ok hst2 hf) hl (star_cons hst.1) (star_none hst.2)).imp fun σ H Q q => mutO_ok hm q, rfl⟩
theorem de_mutP (slot : Slot "list" name id) (hty : typeOf (.builtin id) = pure (.type "method_descriptor")) (hr : MtR X id r) (hm : MutP (Px X cls) r m) (hN : X.N[i]? = some x) (hv : Vis X.env.scope x) (hd : (x == ("__debug__" : Str)) = false) (hcd : (x == ("__classdict__" : Str)) = false)
    (h : DAs X cls W (e :: es) os) (hb : attributeBase (.Name x p) name X.env (eval (.Name x p) X.env) = eval (.Name x p) X.env) (hl : (apos.endLine == pos.line) = true) (hf : fewC (e :: es) = true) :
    DE X cls W (.Call (.Attribute (.Name x p) name apos) (e :: es) [] pos) (.val (gMut i os m)) := by
  have hst : anyStar (e :: es) = false := h.star
  have hst2 := hst
  simp only [anyStar, List.any_cons, Bool.or_eq_false_iff] at hst
  exact ⟨(pe_bm PySem.F.plainAttrs_list slot hty hr (pe_var hN hv hd hcd) h.pa hb (few_ok hst2 hf) hl (star_cons hst.1) (star_none hst.2)).imp fun σ H Q q => mutP_ok h.fine hm q, rfl⟩
theorem de_mut0 (slot : Slot "list" name id) (hty : typeOf (.builtin id) = pure (.type "method_descriptor")) (hr : MtR X id r) (hm : MutP (Px X cls) r m) (hN : X.N[i]? = some x) (hv : Vis X.env.scope x) (hd : (x == ("__debug__" : Str)) = false) (hcd : (x == ("__classdict__" : Str)) = false)
    (hb : attributeBase (.Name x p) name X.env (eval (.Name x p) X.env) = eval (.Name x p) X.env) (hl : (apos.endLine == pos.line) = true) :
    DE X cls W (.Call (.Attribute (.Name x p) name apos) [] [] pos) (.val (gMut i [] m)) := 
  ⟨(pe_bm0 PySem.F.plainAttrs_list slot hty hr (pe_var hN hv hd hcd) hb hl).imp fun σ H Q q => mutP_ok (os := []) rfl hm q, rfl⟩
end
/-! ### the methods -/
def mApp : MutF
  | xs, [t] => if xs.length < sizeLine then some (.d .none, xs ++ [t]) else none
  | _, _ => none
theorem o_app {K : Par} : MutO K rAppend mApp := fun F H a vs0 xs A' vs ts B res ys e h1 h2 h3 d hm Q k => by
  unfold mApp at hm
  split at hm
  · rename_i t
    split at hm
    · rename_i hz
      cases hm
      obtain ⟨v, rfl, r⟩ := h3.one'
      exact ⟨a, vs0, v, rfl, rfl, h1, by rw [h2.length]; exact hz, k _ (A' ++ B) .non [] (RA.append h2 r d) (.d .non) (fun b z => List.mem_append.mp z) (by simp) (by simp)⟩
    · cases hm
  · cases hm
def mExt : MutF
  | xs, [t] => match listOf t with
    | some ds => if xs.length + ds.length ≤ sizeLine then some (.d .none, xs ++ ds.map .d) else none
    | none => none
  | _, _ => none
theorem p_ext {K : Par} : MutP K rExtend mExt := fun F H a vs0 xs A' vs ts res ys e h1 h2 h3 hm Q k => by
  unfold mExt at hm
  split at hm
  · rename_i t
    split at hm
    · rename_i ds hd
      split at hm
      · rename_i hz
        cases hm
        obtain ⟨v, rfl, A, r⟩ := pairedOne h3
        obtain ⟨b, zs, rfl, hb, fz⟩ := listOf_at e r hd
        refine ⟨a, b, vs0, zs, rfl, rfl, h1, hb, by rw [h2.length, fz.length]; exact hz, k _ (A' ++ []) .non [] (RA.join h2 (RA.dats fz) (by simp)) (.d .non) (by simp) (by simp) (by simp)⟩
      · cases hm
    · cases hm
  · cases hm
def mPop : MutF
  | xs, [] => match xs.getLast? with
    | some t => some (t, xs.dropLast)
    | none => none
  | _, _ => none
theorem p_pop {K : Par} : MutP K rPop mPop := fun F H a vs0 xs A' vs ts res ys e h1 h2 h3 hm Q k => by
  unfold mPop at hm
  split at hm
  · split at hm
    · rename_i t ht
      simp only [Option.some.injEq, Prod.mk.injEq] at hm
      obtain ⟨rfl, rfl⟩ := hm
      cases h3
      have hx : xs = xs.dropLast ++ [t] := by
        rw [List.getLast?_eq_some_iff] at ht
        obtain ⟨zs, rfl⟩ := ht
        simp
      rw [hx] at h2
      obtain ⟨vs1, vs2, A1, A2, rfl, r1, r2, rfl, d⟩ := RA.split h2
      obtain ⟨v, rfl, r3⟩ := r2.one'
      exact ⟨a, _, v, rfl, rfl, h1, by simp, by simpa using k vs1 A1 v A2 r1 r3 (fun b z => List.mem_append_left _ z) (fun b z => List.mem_append_right _ z) d⟩
    · cases hm
  · cases hm
def mPopAt : MutF
  | xs, [.d (.int i)] => if (decide (-(2 ^ 63) ≤ i) && decide (i < 2 ^ 63)) = true then match seqIndex? i xs.length with
      | some k => match xs[k]? with
        | some t => some (t, xs.eraseIdx k)
        | none => none
      | none => none
    else none
  | _, _ => none
theorem p_popAt {K : Par} : MutP K rPopAt mPopAt := fun F H a vs0 xs A' vs ts res ys e h1 h2 h3 hm Q k => by
  unfold mPopAt at hm
  split at hm
  · rename_i i
    split at hm
    · rename_i hi
      simp only [Bool.and_eq_true, decide_eq_true_eq] at hi
      split at hm
      · rename_i j hj
        split at hm
        · rename_i t ht
          simp only [Option.some.injEq, Prod.mk.injEq] at hm
          obtain ⟨rfl, rfl⟩ := hm
          obtain ⟨v, rfl, A, r⟩ := pairedOne h3
          rw [r.int]
          have lt : j < xs.length := (List.getElem?_eq_some_iff.mp ht).1
          have e1 : xs[j] = t := (List.getElem?_eq_some_iff.mp ht).2
          have hx : xs = xs.take j ++ t :: xs.drop (j + 1) := by
            rw [← e1]; simp
          have hl := h2.length
          have h2' := h2
          rw [hx] at h2'
          obtain ⟨vs1, vs2, A1, A2, e2, r1, r2, e3, d⟩ := RA.split h2'
          cases r2 with
          | @cons v vs2 _ _ A3 A4 r3 r4 n =>
            subst e2 e3
            have l1 : vs1.length = j := by have := r1.length; simp at this; omega
            refine ⟨a, _, i, j, v, rfl, rfl, h1, hi.1, hi.2, by rw [hl]; exact hj, by rw [← l1]; simp, ?_⟩
            have e4 : (vs1 ++ v :: vs2).eraseIdx j = vs1 ++ vs2 := by rw [List.eraseIdx_append_of_length_le (by omega)]; simp [l1]
            have e5 : xs.eraseIdx j = xs.take j ++ xs.drop (j + 1) := List.eraseIdx_eq_take_drop_succ ..
            rw [e4]
            refine k _ (A1 ++ A4) v A3 (by rw [e5]; exact RA.join r1 r4 fun b z w => d b z (List.mem_append_right _ w)) r3 (fun b z => ?_) (fun b z => by simp [z]) fun b z w => ?_
            · rcases List.mem_append.mp z with z | z
              · (exact List.mem_append_left _ z)
              · exact List.mem_append_right _ (List.mem_append_right _ z)
            · rcases List.mem_append.mp z with z | z
              · exact d b z (List.mem_append_left _ w)
              · exact n b w z
        · cases hm
      · cases hm
    · cases hm
  · cases hm
def mRev : MutF
  | xs, [] => some (.d .none, xs.reverse)
  | _, _ => none
theorem p_rev {K : Par} : MutP K rReverse mRev := fun F H a vs0 xs A' vs ts res ys e h1 h2 h3 hm Q k => by
  unfold mRev at hm
  split at hm
  · cases hm
    cases h3
    obtain ⟨A1, r, i⟩ := h2.rev
    exact ⟨a, vs0, rfl, rfl, h1, k _ A1 .non [] r (.d .non) i (by simp) (by simp)⟩
  · cases hm
def mClr : MutF
  | _, [] => some (.d .none, [])
  | _, _ => none
theorem p_clr {K : Par} : MutP K rClear mClr := fun F H a vs0 xs A' vs ts res ys e h1 h2 h3 hm Q k => by
  unfold mClr at hm
  split at hm
  · cases hm
    cases h3
    exact ⟨a, vs0, rfl, rfl, h1, k [] [] .non [] .nil (.d .non) (by simp) (by simp) (by simp)⟩
  · cases hm
end Hu
set_option Elab.async false
set_option linter.all false
set_option maxRecDepth 100000
/-! HuQ: chains of comparisons, stores into lists, pairs stored at once, += , a for whose name is changed. -/
namespace Hu
open PySem L2
open PyProof.Rows (chain_last chain_link test_last test_link ite_ff ite_tt Compare_chain isTrue_chain)

def gInt (g : G T) : G Int := fun ρ => (g ρ).bind fun t ρ' => match t with
  | .d (.int i) => .ok i ρ'
  | _ => .bad
theorem tG_int {K : Par} {W : XW} {α : Type} {g : G T} {f : Int → G α} {P : α → Rho → Prop} {F H F0 H0 : Hp} {fp fp0 : Nat → List Addr} {A0 : List Addr} {σ : St} {ρ : Rho} {Q : VK} (x0 : Ext F0 H0 fp0 F H fp A0) (s : Sim K F H σ ρ fp) (o : OutR K W F0 H0 σ fp0 P ((gInt g ρ).bind f))
    (k : ∀ i ρ' F' H' fp', Sim K F' H' σ ρ' fp' → Ext F H fp F' H' fp' [] → OutR K W F0 H0 σ fp0 P (f i ρ') → Q (.int i) H') : tG K W g σ H Q := by
  refine ⟨ρ, F, fp, s, ?_⟩
  unfold gInt at o
  cases c : g ρ with
  | bad => rw [c] at o; exact o.elim
  | ex a b d => rw [c] at o; exact PostX.shift o x0
  | ok t ρ' =>
    rw [c] at o
    intro v F' H' fp' A s' m x
    simp only [Out.bind] at o
    split at o
    · rename_i e
      split at e
      · rename_i i
        cases e
        rw [m.r.int]
        exact k _ _ F' H' fp' s' x.nil o
      · cases e
    · rename_i e
      split at e <;> cases e
    · exact o.elim
def gCh : List (Int → Int → Bool) → List (G Int) → Int → G Bool
  | [k], [g], i, ρ => (g ρ).bind fun j ρ' => .ok (k i j) ρ'
  | k :: ks, g :: gs, i, ρ => (g ρ).bind fun j ρ' => if k i j = true then gCh ks gs j ρ' else .ok false ρ'
  | _, _, _, _ => .bad
section
variable {X : Cx} {cls : Str → Addr} {W : XW} {e a b c : Expr} {es : List Expr} {os : List Opd} {pos p : Pos} {oa ob oc o : Opd} {x : Str}
inductive Chn (X : Cx) (cls : Str → Addr) (W : XW) : List CmpOp → List Expr → List (Int → Int → Bool) → List (G Int) → Prop
  | one {op e k o} : OpR X (compareOp op) (rI0 fun i j => .bl (k i j)) → DE X cls W e o → Chn X cls W [op] [e] [k] [gInt o.vg]
  | cons {op op2 ops e es k k2 ks o g2 gs} : OpR X (compareOp op) (rI0 fun i j => .bl (k i j)) → DE X cls W e o → Chn X cls W (op2 :: ops) es (k2 :: ks) (g2 :: gs) → Chn X cls W (op :: op2 :: ops) (e :: es) (k :: k2 :: ks) (gInt o.vg :: g2 :: gs)
theorem Chn.ev : ∀ {ops : List CmpOp} {es : List Expr} {ks : List (Int → Int → Bool)} {gs : List (G Int)}, Chn X cls W ops es ks gs → ∃ e es', es = e :: es'
  | _, _, _, _, .one _ _ => ⟨_, _, rfl⟩
  | _, _, _, _, .cons _ _ _ => ⟨_, _, rfl⟩
theorem Chn.val : ∀ {ops : List CmpOp} {es : List Expr} {ks : List (Int → Int → Bool)} {gs : List (G Int)}, Chn X cls W ops es ks gs → ∀ {pins : List (Addr × Obj)} {s : Shared} {σ : St} {H H0 F F0 : Hp} {fp fp0 : Nat → List Addr} {A0 : List Addr} {ρ : Rho} {i : Int} {v : Value} {Q : VK}, Inv X pins σ H s → RelV (.int i) v →
    Ext F0 H0 fp0 F H fp A0 → Sim (Px X cls) F H σ ρ fp → OutR (Px X cls) W F0 H0 σ fp0 (PostB (Px X cls) F0 H0 σ fp0 fun k H' => Q (.bl k) H') (gCh ks gs i ρ) → wpAny (model X.prog X.w) X.A (compareChain pos v ops (evalEach es X.env)) (EP X pins σ Q) X.xe s
  | _, _, _, _, .one (k := k) ho he, pins, s, σ, H, H0, F, F0, fp, fp0, A0, ρ, i, v, Q, I, r, x0, sm, o => by
    simp only [gCh] at o
    have t := tG_int (f := fun j ρ' => .ok (k i j) ρ') (Q := fun y H' => ∃ j, y = .int j ∧ Q (.bl (k i j)) H') x0 sm o fun j ρ' F' H' fp' s' x' o' => ⟨j, rfl, o' F' H' fp' s' ((x0.trans x').nil)⟩
    exact chain_last (thn (he.own.run pins s σ H _ I t) fun u s1 ⟨y, H1, I1, r1, j, e1, q1⟩ => ho pins s1 σ H1 (.int i) y v u Q I1 r r1 ⟨i, j, rfl, e1, q1⟩)
  | _, _, _, _, .cons (op := op) (op2 := op2) (ops := ops) (k := k) (k2 := k2) (ks := ks) (g2 := g2) (gs := gs) (es := es) ho he hr, pins, s, σ, H, H0, F, F0, fp, fp0, A0, ρ, i, v, Q, I, r, x0, sm, o => by
    obtain ⟨e2, es2, rfl⟩ := hr.ev
    simp only [gCh] at o
    have t := tG_int (f := fun j ρ' => if k i j = true then gCh (k2 :: ks) (g2 :: gs) j ρ' else .ok false ρ') (Q := fun y H' => ∃ j ρ' F' fp', y = .int j ∧ Sim (Px X cls) F' H' σ ρ' fp' ∧ Ext F0 H0 fp0 F' H' fp' [] ∧ OutR (Px X cls) W F0 H0 σ fp0 (PostB (Px X cls) F0 H0 σ fp0 fun k H' => Q (.bl k) H') (if k i j = true then gCh (k2 :: ks) (g2 :: gs) j ρ' else .ok false ρ'))
      x0 sm o fun j ρ' F' H' fp' s' x' o' => ⟨j, ρ', F', fp', rfl, s', (x0.trans x').nil, o'⟩
    refine chain_link (thn (he.own.run pins s σ H _ I t) fun u s1 hh => ?_)
    obtain ⟨y, H1, I1, r1, j, ρ', F', fp', e1, s', x', o'⟩ := hh
    refine thn (ho pins s1 σ H1 (.int i) y v u (fun z H2 => z = .bl (k i j) ∧ H2 = H1) I1 r r1 ⟨i, j, rfl, e1, rfl, rfl⟩) fun d s2 hh => ?_
    obtain ⟨z, H2, I2, r2, e2, e3⟩ := hh
    subst e1 e2 e3
    cases r2
    refine wpAny_truthy_bool ?_
    cases hk : k i j with
    | false =>
      rw [hk] at o'
      exact ite_ff ⟨.bl false, _, I2, rfl, o' F' _ fp' s' x'⟩
    | true =>
      rw [hk] at o'
      exact ite_tt (Chn.val hr I2 r1 x' s' o')
theorem Chn.test : ∀ {ops : List CmpOp} {es : List Expr} {ks : List (Int → Int → Bool)} {gs : List (G Int)}, Chn X cls W ops es ks gs → ∀ {pins : List (Addr × Obj)} {s : Shared} {σ : St} {H H0 F F0 : Hp} {fp fp0 : Nat → List Addr} {A0 : List Addr} {ρ : Rho} {i : Int} {v : Value} {Q : Bool → Hp → Prop}, Inv X pins σ H s → RelV (.int i) v →
    Ext F0 H0 fp0 F H fp A0 → Sim (Px X cls) F H σ ρ fp → OutR (Px X cls) W F0 H0 σ fp0 (PostB (Px X cls) F0 H0 σ fp0 Q) (gCh ks gs i ρ) → wpAny (model X.prog X.w) X.A (testChain pos v ops (evalEach es X.env)) (TP X pins σ Q) X.xe s
  | _, _, _, _, .one (k := k) ho he, pins, s, σ, H, H0, F, F0, fp, fp0, A0, ρ, i, v, Q, I, r, x0, sm, o => by
    simp only [gCh] at o
    have t := tG_int (f := fun j ρ' => .ok (k i j) ρ') (Q := fun y H' => ∃ j, y = .int j ∧ Q (k i j) H') x0 sm o fun j ρ' F' H' fp' s' x' o' => ⟨j, rfl, o' F' H' fp' s' ((x0.trans x').nil)⟩
    refine test_last (thn (he.own.run pins s σ H _ I t) fun u s1 hh => ?_)
    obtain ⟨y, H1, I1, r1, j, e1, q1⟩ := hh
    refine thn (ho pins s1 σ H1 (.int i) y v u (fun z H2 => z = .bl (k i j) ∧ H2 = H1) I1 r r1 ⟨i, j, rfl, e1, rfl, rfl⟩) fun d s2 hh => ?_
    obtain ⟨z, H2, I2, r2, e2, e3⟩ := hh
    subst e2 e3
    cases r2
    exact wpAny_truthy_bool ⟨_, I2, q1⟩
  | _, _, _, _, .cons (op := op) (op2 := op2) (ops := ops) (k := k) (k2 := k2) (ks := ks) (g2 := g2) (gs := gs) (es := es) ho he hr, pins, s, σ, H, H0, F, F0, fp, fp0, A0, ρ, i, v, Q, I, r, x0, sm, o => by
    obtain ⟨e2, es2, rfl⟩ := hr.ev
    simp only [gCh] at o
    have t := tG_int (f := fun j ρ' => if k i j = true then gCh (k2 :: ks) (g2 :: gs) j ρ' else .ok false ρ') (Q := fun y H' => ∃ j ρ' F' fp', y = .int j ∧ Sim (Px X cls) F' H' σ ρ' fp' ∧ Ext F0 H0 fp0 F' H' fp' [] ∧ OutR (Px X cls) W F0 H0 σ fp0 (PostB (Px X cls) F0 H0 σ fp0 Q) (if k i j = true then gCh (k2 :: ks) (g2 :: gs) j ρ' else .ok false ρ'))
      x0 sm o fun j ρ' F' H' fp' s' x' o' => ⟨j, ρ', F', fp', rfl, s', (x0.trans x').nil, o'⟩
    refine test_link (thn (he.own.run pins s σ H _ I t) fun u s1 hh => ?_)
    obtain ⟨y, H1, I1, r1, j, ρ', F', fp', e1, s', x', o'⟩ := hh
    refine thn (ho pins s1 σ H1 (.int i) y v u (fun z H2 => z = .bl (k i j) ∧ H2 = H1) I1 r r1 ⟨i, j, rfl, e1, rfl, rfl⟩) fun d s2 hh => ?_
    obtain ⟨z, H2, I2, r2, e2, e3⟩ := hh
    subst e1 e2 e3
    cases r2
    refine wpAny_truthy_bool ?_
    cases hk : k i j with
    | false =>
      rw [hk] at o'
      exact ite_ff ⟨_, I2, o' F' _ fp' s' x'⟩
    | true =>
      rw [hk] at o'
      exact ite_tt (Chn.test hr I2 r1 x' s' o')
def gChn (g : G T) (ks : List (Int → Int → Bool)) (gs : List (G Int)) : G Bool := fun ρ => (gInt g ρ).bind fun i ρ' => gCh ks gs i ρ'
def gChV (g : G T) (ks : List (Int → Int → Bool)) (gs : List (G Int)) : G T := fun ρ => (gChn g ks gs ρ).bind fun k ρ' => .ok (.d (.bool k)) ρ'
theorem dt_chain {op op2 : CmpOp} {ops : List CmpOp} {ks : List (Int → Int → Bool)} {gs : List (G Int)} (ha : DE X cls W a oa) (h : Chn X cls W (op :: op2 :: ops) (b :: c :: es) ks gs) (hm : lastMarks (op :: op2 :: ops) (b :: c :: es) = false) : DT X cls W (.Compare a (op :: op2 :: ops) (b :: c :: es) pos) (gChn oa.vg ks gs) := by
  (refine ⟨fun pins s σ H Q I q => ?_⟩)
  obtain ⟨ρ, F, fp, sm, o⟩ := q
  have t := tG_int (Q := fun y H' => ∃ j ρ' F' fp', y = .int j ∧ Sim (Px X cls) F' H' σ ρ' fp' ∧ Ext F H fp F' H' fp' [] ∧ OutR (Px X cls) W F H σ fp (PostB (Px X cls) F H σ fp Q) (gCh ks gs j ρ')) (Ext.refl F H fp) sm o fun j ρ' F' H' fp' s' x' o' => ⟨j, ρ', F', fp', rfl, s', x', o'⟩
  refine isTrue_chain (thn (ha.own.run pins s σ H _ I t) fun u s1 hh => ?_) hm
  obtain ⟨y, H1, I1, r1, j, ρ', F', fp', e1, s', x', o'⟩ := hh
  subst e1
  exact h.test I1 r1 x' s' o'
theorem de_chain {op op2 : CmpOp} {ops : List CmpOp} {ks : List (Int → Int → Bool)} {gs : List (G Int)} (ha : DE X cls W a oa) (h : Chn X cls W (op :: op2 :: ops) (b :: c :: es) ks gs) (hm : lastMarks (op :: op2 :: ops) (b :: c :: es) = false) : DE X cls W (.Compare a (op :: op2 :: ops) (b :: c :: es) pos) (.val (gChV oa.vg ks gs)) := by
  refine ⟨⟨fun pins s σ H Q I q => ?_⟩, rfl⟩
  obtain ⟨ρ, F, fp, sm, o⟩ := q
  have o : OutR (Px X cls) W F H σ fp (PostB (Px X cls) F H σ fp fun k H' => Q (.bl k) H') (gChn oa.vg ks gs ρ) :=
    OutR.imp (OutR.bind o) (Ext.refl F H fp) fun k ρ' _ q F' H' fp' s' x' => q (.bl k) F' H' fp' [] s' (Tmp.frz (.bl k)) x'
  have t := tG_int (Q := fun y H' => ∃ j ρ' F' fp', y = .int j ∧ Sim (Px X cls) F' H' σ ρ' fp' ∧ Ext F H fp F' H' fp' [] ∧ OutR (Px X cls) W F H σ fp (PostB (Px X cls) F H σ fp fun k H' => Q (.bl k) H') (gCh ks gs j ρ')) (Ext.refl F H fp) sm o fun j ρ' F' H' fp' s' x' o' => ⟨j, ρ', F', fp', rfl, s', x', o'⟩
  refine Compare_chain (thn (ha.own.run pins s σ H _ I t) fun u s1 hh => ?_) hm
  obtain ⟨y, H1, I1, r1, j, ρ', F', fp', e1, s', x', o'⟩ := hh
  subst e1
  exact h.val I1 r1 x' s' o'
end
end Hu
set_option Elab.async false
set_option linter.all false
set_option maxRecDepth 100000
/-! HuR: stores into lists, names stored at once, += of ints. -/
namespace Hu
open PySem L2
theorem tC_at {K : Par} {W : XW} {o : Opd} {σ : St} {H : Hp} {Q : VK} (h : tOs K W [o] σ H fun vs H1 => ∃ v, vs = [v] ∧ Q v H1) : tO K W o σ H Q := by
  refine tO_mono h fun v H1 q => ?_
  obtain ⟨w, e, q⟩ := q
  cases e; exact q
section
variable {X : Cx} {cls : Str → Addr} {W : XW} {e a b c : Expr} {pos p p2 pt : Pos} {oa ob oc o : Opd} {x y : Str} {i j : Nat}
/-- x[b] = .. of a list -/
def sPut (i : Nat) (ob : Opd) (g : G T) : SG := fun ρ => (g ρ).s fun t ρ1 => match getS ρ1 i with
  | none => .bad
  | some _ => (gOs [ob] (fun ts ρ2 => match getS ρ2 i, ts with
    | some (.lst xs), [.d (.int k)] => match ixN xs.length k with
      | some j => .ok () (ρ2.set i (some (.lst (xs.set j t))))
      | none => .bad
    | _, _ => .bad) ρ1).s fun _ ρ3 => .nx ρ3
theorem RA.put {K : Par} {F H : Hp} {vs : List V} {ts : List T} {A B : List Addr} {v : V} {t : T} {j : Nat} (h : RA K F H vs ts A) (hj : j < ts.length) (r : R K F H v t B) (d : ∀ a, a ∈ A → a ∉ B) : ∃ A1, RA K F H (vs.set j v) (ts.set j t) A1 ∧ ∀ a, a ∈ A1 → a ∈ A ∨ a ∈ B := by
  have hx : ts = ts.take j ++ ts[j] :: ts.drop (j + 1) := by simp
  have h' := h
  rw [hx] at h'
  obtain ⟨vs1, vs2, A1, A2, e2, r1, r2, e3, dd⟩ := RA.split h'
  cases r2 with
  | @cons w vs2 _ _ A3 A4 r3 r4 n =>
    subst e2 e3
    have l1 : vs1.length = j := by have := r1.length; simp at this; omega
    have e4 : (vs1 ++ w :: vs2).set j v = vs1 ++ v :: vs2 := by rw [List.set_append_right _ _ (by omega)]; simp [l1]
    have e5 : ts.set j t = ts.take j ++ t :: ts.drop (j + 1) := by rw [List.set_eq_take_append_cons_drop, if_pos hj]
    refine ⟨A1 ++ (B ++ A4), ?_, fun a z => ?_⟩
    · rw [e4, e5]
      refine RA.join r1 (.cons r r4 fun a z w => d a (by simp [w]) z) fun a z w => ?_
      rcases List.mem_append.mp w with w | w
      · exact d a (by simp [z]) w
      · exact dd a z (by simp [w])
    · rcases List.mem_append.mp z with z | z
      · exact .inl (by simp [z])
      · rcases List.mem_append.mp z with z | z
        · exact .inr z
        · exact .inl (by simp [z])
theorem ds_put (hN : X.N[i]? = some x) (hv : Vis X.env.scope x) (hd : (x == ("__debug__" : Str)) = false) (hcd : (x == ("__classdict__" : Str)) = false) (he : DE X cls W e o) (hb : DE X cls W b ob) (hst : isStarT (.Subscript (.Name x p) b p2) = false)
    (ha : ∀ v, assign (.Subscript (.Name x p) b p2) X.env v = (do let ov ← holding [v] (eval (.Name x p) X.env); let iv ← holding [v, ov] (eval b X.env); standAt p2; holding [v, ov, iv] (setItem ov iv v); release [v, ov, iv] []))
    (hs : swapsWithSole [.Subscript (.Name x p) b p2] e pos.line X.env = pure false) (hw : swappedStores [.Subscript (.Name x p) b p2] e X.env = pure none) :
    DS X cls W (.Assign [.Subscript (.Name x p) b p2] e pos) [] (sPut i ob o.vg) :=
  (ps_asg he.own (pg_sub (pe_var hN hv hd hcd) hb.1 set_list ha) hs hw (assignEach_cons hst)).imp fun D σ H q => by
    obtain ⟨ρ, F, fp, s, q⟩ := q
    refine ⟨ρ, F, fp, s, q.run.imp (Ext.refl F H fp) fun t ρ1 _ q v F1 H1 fp1 A s1 m x1 => ?_⟩
    cases c0 : getS ρ1 i with
    | none => rw [c0] at q; exact q.elim
    | some t0 =>
    rw [c0] at q
    obtain ⟨u0, hu0, _⟩ := s1.sl i t0 (getS_some c0)
    refine ⟨u0, hu0, tC_at ?_⟩
    refine gOs_run (fine1 hb.2) x1 s1 q.run fun vs xs ts ρ2 F2 H2 fp2 B s2 x2 ar fi pr q => ?_
    clear fi
    obtain ⟨m2, _⟩ := m.on s1 x2 s2
    cases c1 : getS ρ2 i with
    | none => rw [c1] at q; exact q.elim
    | some t1 =>
    rw [c1] at q
    split at q
    · rename_i _ _ xs k e1
      cases e1
      obtain ⟨w, rfl, Aw, rw'⟩ := pairedOne pr
      obtain ⟨u1, hu1, r1⟩ := s2.sl i _ (getS_some c1)
      rw [hu0] at hu1; cases hu1
      cases c2 : ixN xs.length k with
      | none => rw [c2] at q; exact q.elim
      | some j =>
        rw [c2] at q
        have hj : j < xs.length := (ixN_seq c2).2.1
        generalize hA : fp2 i = A0 at r1
        cases r1 with
        | @lst a vs0 _ A' h1 h2 h3 =>
          obtain ⟨A1, r5, i5⟩ := RA.put h2 hj m2.r fun b z w => m2.dj b w i (hA ▸ List.mem_cons_of_mem _ z)
          obtain ⟨fp3, s3, _, x3⟩ := mut_loc (xs := xs) (put := id) (a := a) (A' := A') (rv := .non) (rt := .d .none) (C := []) (B := A) (fp0 := fp) (F0 := F) (H0 := H) s2 hu0 (getS_some c1) (by rw [hA]; exact Loc.refl (.lst h1 h2 h3)) ((x1.trans x2).more fun b z => .inr (x1.own b (.inl z))) m2.r.live m2.ff m2.dj h3 ⟨_, h1⟩ r5 (.d .non) i5 (by simp) (by simp)
          exact ⟨w, rfl, a, vs0, k, j, rfl, rw'.int, h1, by rw [h2.length]; exact c2, q σ F2 _ fp3 s3 x3.nil (Ag.refl _ _)⟩
    · exact q.elim

/-! ### several names at once -/
def setRs : List Nat → List T → Rho → Option Rho
  | [], [], ρ => some ρ
  | i :: is, t :: ts, ρ => (setS i t ρ).bind fun ρ' => setRs is ts ρ'
  | _, _, _ => none
def setVs : List Nat → List V → St → St
  | i :: is, v :: vs, σ => setVs is vs (σ.set i (some v))
  | _, _, σ => σ
theorem sets_ok {K : Par} {F H : Hp} : ∀ {is : List Nat} {vs : List V} {ts : List T} {A : List Addr} {σ : St} {ρ ρ' : Rho} {fp : Nat → List Addr}, Sim K F H σ ρ fp → RA K F H vs ts A → (∀ a, a ∈ A → ∀ i, a ∉ fp i) → (∀ a, a ∈ A → F a = none) → setRs is ts ρ = some ρ' →
    ∃ fp', Sim K F H (setVs is vs σ) ρ' fp' ∧ (∀ b i, b ∈ fp' i → (∃ j, b ∈ fp j) ∨ b ∈ A) ∧ Ag is σ (setVs is vs σ)
  | [], _, _, _, σ, ρ, ρ', fp, s, .nil, d, f, h => by
    simp only [setRs, Option.some.injEq] at h
    subst h
    exact ⟨fp, s, fun b i z => .inl ⟨i, z⟩, Ag.refl _ _⟩
  | [], _, _, _, σ, ρ, ρ', fp, s, .cons _ _ _, d, f, h => by simp [setRs] at h
  | i :: is, _, _, _, σ, ρ, ρ', fp, s, .nil, d, f, h => by simp [setRs] at h
  | i :: is, _, _, _, σ, ρ, ρ', fp, s, .cons (v := v) (vs := vs) (t := t) (ts := ts) (A := A) (B := B) r1 r2 n, d, f, h => by
    simp only [setRs, Option.bind_eq_some_iff] at h
    obtain ⟨ρ1, h1, h2⟩ := h
    unfold setS at h1
    split at h1
    · rename_i l
      cases h1
      have s1 := s.set (i := i) ⟨r1, fun b z => d b (List.mem_append_left _ z), fun b z => f b (List.mem_append_left _ z)⟩ l
      obtain ⟨fp', s2, c2, g2⟩ := sets_ok s1 r2 (fun b z j w => by
        split at w
        · exact n b w z
        · exact d b (List.mem_append_right _ z) j w) (fun b z => f b (List.mem_append_right _ z)) h2
      refine ⟨fp', s2, fun b k z => ?_, (Ag.set.trans g2).mono fun k z => by simpa using z⟩
      rcases c2 b k z with ⟨j, w⟩ | w
      · split at w
        · exact .inr (List.mem_append_left _ w)
        · exact .inl ⟨j, w⟩
      · exact .inr (List.mem_append_right _ w)
    · cases h1
def sPar (is : List Nat) (gs : List (G T)) : SG := fun ρ => (gOs (gs.map .val) (fun ts ρ' => match setRs is ts ρ' with
  | some ρ2 => .ok () ρ2
  | none => .bad) ρ).s fun _ ρ' => .nx ρ'
theorem par_ok {K : Par} {is : List Nat} {gs : List (G T)} {D : Ends} {σ : St} {H : Hp} (q : tS K W is (sPar is gs) D σ H) : tOs K W (gs.map .val) σ H fun vs H1 => D.nx (setVs is vs σ) H1 := by
  obtain ⟨ρ, F, fp, s, q⟩ := q
  refine gOs_run (by simp [Opd.fine]) (Ext.refl F H fp) s q.run fun vs xs ts ρ' F' H' fp' B s' x ar fi _ q => ?_
  obtain ⟨ra, bd, bf⟩ := ar.vals fi
  clear ar fi
  split at q
  · rename_i ρ2 h2
    obtain ⟨fp2, s2, c2, g2⟩ := sets_ok s' ra bd bf h2
    exact q _ F' H' fp2 s2 (x.cells c2) g2
  · exact q.elim
theorem tOs_imp {K : Par} {σ : St} : ∀ {gs : List (G T)} {H : Hp} {Q Q' : List V → Hp → Prop}, tOs K W (gs.map .val) σ H Q → (∀ vs H1, Q vs H1 → Q' vs H1) → tOs K W (gs.map .val) σ H Q'
  | [], _, _, _, h, i => i _ _ h
  | g :: gs, _, _, _, h, i => tO_mono (o := .val g) h fun v H1 q => tOs_imp (gs := gs) q fun vs H2 q => i _ _ q
theorem tOs_len {K : Par} {σ : St} : ∀ {gs : List (G T)} {H : Hp} {Q : List V → Hp → Prop}, tOs K W (gs.map .val) σ H Q → tOs K W (gs.map .val) σ H fun vs H1 => vs.length = gs.length ∧ Q vs H1
  | [], _, _, h => ⟨rfl, h⟩
  | g :: gs, _, _, h => tO_mono (o := .val g) h fun v H1 q => tOs_imp (tOs_len (gs := gs) q) fun vs H2 ⟨e, q⟩ => ⟨by simp [e], q⟩
theorem ds_par {k1 k2 : Nat} {px py pt2 : Pos} (hc : X.calm = true) (hN : X.N.Nodup) (hi : X.N[i]? = some x) (hj : X.N[j]? = some y) (hij : i ≠ j) (hx : X.env.scope.names.lookup x = some .local) (hy : X.env.scope.names.lookup y = some .local) (ha : DAs X cls W [a, b] [oa, ob])
    (hw : swappedStores [.Tuple [.Name x px, .Name y py] k1 pt] (.Tuple [a, b] k2 pt2) X.env = pure (some [x, y])) (hs : swapsWithSole [.Tuple [.Name x px, .Name y py] k1 pt] (.Tuple [a, b] k2 pt2) pos.line X.env = pure false) :
    DS X cls W (.Assign [.Tuple [.Name x px, .Name y py] k1 pt] (.Tuple [a, b] k2 pt2) pos) [i, j] (sPar [i, j] [oa.vg, ob.vg]) :=
  (ps_par hc hN hi hj hij hx hy ha.own.pa hw hs).imp fun D σ H q => tOs_imp (gs := [oa.vg, ob.vg]) (tOs_len (par_ok q)) fun vs H1 ⟨e, q⟩ => by
    match vs, e, q with
    | [v, w], _, q => exact ⟨v, w, rfl, q⟩
theorem ds_par3 {l : Nat} {z : Str} {k1 k2 : Nat} {px py pz pt2 : Pos} (hc : X.calm = true) (hN : X.N.Nodup) (hi : X.N[i]? = some x) (hj : X.N[j]? = some y) (hl : X.N[l]? = some z) (hij : i ≠ j) (hil : i ≠ l) (hjl : j ≠ l) (hx : X.env.scope.names.lookup x = some .local) (hy : X.env.scope.names.lookup y = some .local) (hz : X.env.scope.names.lookup z = some .local) (ha : DAs X cls W [a, b, c] [oa, ob, oc])
    (hw : swappedStores [.Tuple [.Name x px, .Name y py, .Name z pz] k1 pt] (.Tuple [a, b, c] k2 pt2) X.env = pure (some [x, y, z])) (hs : swapsWithSole [.Tuple [.Name x px, .Name y py, .Name z pz] k1 pt] (.Tuple [a, b, c] k2 pt2) pos.line X.env = pure false) :
    DS X cls W (.Assign [.Tuple [.Name x px, .Name y py, .Name z pz] k1 pt] (.Tuple [a, b, c] k2 pt2) pos) [i, j, l] (sPar [i, j, l] [oa.vg, ob.vg, oc.vg]) :=
  (ps_par3 hc hN hi hj hl hij hil hjl hx hy hz ha.own.pa hw hs).imp fun D σ H q => tOs_imp (gs := [oa.vg, ob.vg, oc.vg]) (tOs_len (par_ok q)) fun vs H1 ⟨e, q⟩ => by
    match vs, e, q with
    | [u, v, w], _, q => exact ⟨u, v, w, rfl, q⟩
/-- x += e, ints -/
def sAug (i : Nat) (k : Int → Int → Int) (g : G T) : SG := fun ρ => match getS ρ i with
  | some (.d (.int a)) => (gInt g ρ).s fun b ρ' => match setS i (.d (.int (k a b))) ρ' with
    | some ρ2 => .nx ρ2
    | none => .bad
  | _ => .bad
theorem Out.s_bind {α β : Type} {o : Out α} {f : α → Rho → Out β} {h : β → Rho → SOut} : (o.bind f).s h = o.s fun a ρ => (f a ρ).s h := by
  cases o <;> rfl
theorem ds_aug {op : Operator} {k : Int → Int → Int} (ho : PIp X op (ipI k)) (hN : X.N.Nodup) (hi : X.N[i]? = some x) (hx : L2.Loc X.env.scope x) (hf : X.fn x = true ∨ X.env.scope.names.lookup x = some .local) (he : DE X cls W e o) : DS X cls W (.AugAssign (.Name x p) op e pos) [i] (sAug i k o.vg) :=
  (ps_aug hN hi hx he.own ho hf).imp fun D σ H q => by
    obtain ⟨ρ, F, fp, s, q⟩ := q
    unfold sAug at q
    split at q
    · rename_i a0 h0
      obtain ⟨v, hv, r⟩ := s.sl i _ (getS_some h0)
      have := r.int
      subst this
      refine ⟨_, hv, ρ, F, fp, s, ?_⟩
      unfold gInt at q
      rw [Out.s_bind] at q
      refine q.run.imp (Ext.refl F H fp) fun t ρ' hq q w F' H' fp' A s' m x => ?_
      clear hq
      split at q
      · rename_i b0
        simp only [Out.s] at q
        have := m.r.int
        subst this
        unfold setS at q
        split at q
        · rename_i ρ2 e2
          split at e2
          · rename_i l
            cases e2
            refine ⟨a0, b0, rfl, rfl, q _ F' H' _ (s'.set (Tmp.frz (.int (k a0 b0))) l) (x.nil.cells fun c j z => ?_) Ag.set⟩
            split at z
            · simp at z
            · exact .inl ⟨j, z⟩
          · cases e2
        · exact q.elim
      · exact q.elim
    · exact q.elim
end
end Hu
set_option Elab.async false
set_option linter.all false
set_option maxRecDepth 100000
/-! HuS: a for over a list whose items are changed through the loop's name. -/
namespace Hu
open PySem L2
inductive MOut where
  | fin (ts : List T) (ρ : Rho)
  | out (o : SOut)
def loopM (j : Nat) (body : SG) : List T → List T → Rho → MOut
  | [], acc, ρ => .fin acc ρ
  | t :: ts, acc, ρ => match setS j t ρ with
    | none => .out .bad
    | some ρ1 => match body ρ1 with
      | .nx ρ2 => match getS ρ2 j with
        | some t' => loopM j body ts (acc ++ [t']) (ρ2.set j none)
        | none => .out .bad
      | .ct ρ2 => match getS ρ2 j with
        | some t' => loopM j body ts (acc ++ [t']) (ρ2.set j none)
        | none => .out .bad
      | o => .out o
def sForM (i j : Nat) (st : List Nat) (body : SG) : SG := fun ρ => match getS ρ i with
  | some (.lst ts) => if (i == j || st.contains i || st.contains j) = true then .bad else match loopM j body ts [] (ρ.set i none) with
    | .fin ts' ρ' => match setS i (.lst ts') ρ' with
      | some ρ2 => .nx ρ2
      | none => .bad
    | .out o => o
  | _ => .bad
theorem cells_on {K : Par} {F H F' H' : Hp} {σ σ' : St} {ρ ρ' : Rho} {fp fp' : Nat → List Addr} {A B : List Addr} (s : Sim K F H σ ρ fp) (x : Ext F H fp F' H' fp' A) (s' : Sim K F' H' σ' ρ' fp') (bl : Live H B) (bd : ∀ a, a ∈ B → ∀ i, a ∉ fp i) (bf : ∀ a, a ∈ B → F a = none) :
    (∀ a, a ∈ B → H' a = H a) ∧ (∀ a, a ∈ B → ∀ i, a ∉ fp' i) ∧ ∀ a, a ∈ B → F' a = none := by
  have st : ∀ a, a ∈ B → H' a = H a := fun a h => by
    obtain ⟨o, e, _⟩ := bl a h
    rw [e]; exact x.keep a o e (bd a h)
  have no : ∀ a, a ∈ B → ¬ ((∃ i, a ∈ fp i) ∨ H a = none) := fun a h q => by
    rcases q with ⟨i, z⟩ | z
    · exact bd a h i z
    · obtain ⟨o, e, _⟩ := bl a h
      rw [e] at z; cases z
  refine ⟨st, fun a h i z => no a h (x.own a (.inr ⟨i, z⟩)), fun a h => ?_⟩
  cases q : F' a with
  | none => rfl
  | some o =>
    obtain ⟨u, e, nt⟩ := bl a h
    rcases x.fnew a o q with z | z | z | ⟨i, z⟩
    · rw [bf a h] at z; cases z
    · rw [e] at z; cases z
    · have := s'.sub a o q
      rw [st a h, e] at this
      cases this
      rw [nt] at z; cases z
    · exact absurd z (bd a h i)
def OutM (K : Par) (W : XW) (st : List Nat) (F H : Hp) (σ : St) (fp : Nat → List Addr) (D : Ends) (i : Nat) : MOut → Prop
  | .fin ts ρ => ∃ ρ2, setS i (.lst ts) ρ = some ρ2 ∧ OutS K W st F H σ fp D (.nx ρ2)
  | .out o => OutS K W st F H σ fp D o
theorem set_same {σ : St} {i : Nat} {v : V} (h : σ[i]? = some (some v)) : σ.set i (some v) = σ := by
  apply List.ext_getElem?
  intro k
  by_cases c : i = k
  · subst c
    rw [List.getElem?_set_self (List.getElem?_eq_some_iff.mp h).1, h]
  · rw [List.getElem?_set_ne c]
section
variable {X : Cx} {cls : Str → Addr} {W : XW} {pos p p2 : Pos} {x y : Str} {i j : Nat} {st : List Nat} {g : SG} {body : List Stmt}
theorem ds_forM (hp : PassesOwn (model X.prog X.w) X.A X.env X.xe) (hc : X.calm = true) (hN : X.N.Nodup) (hx : X.N[i]? = some x) (hv : Vis X.env.scope x) (hd : (x == ("__debug__" : Str)) = false) (hcd : (x == ("__classdict__" : Str)) = false) (hy : X.N[j]? = some y) (hyl : L2.Loc X.env.scope y) (hyf : X.fn y = true ∨ X.env.scope.names.lookup y = some .local)
    (hb : DSs X cls W body st g) (hs : ∀ z, foldedSetIterable (.Name x p) X.env z = pure z) : DS X cls W (.For (.Name y p2) (.Name x p) body [] pos) (j :: st) (sForM i j st g) :=
  (ps_for hp hc (pi_sq (pe_var hx hv hd hcd)) (pg_name hN hy hyl hyf) hb hs).imp fun D σ0 H0 q => by
    obtain ⟨ρ, F, fp, s, q⟩ := q
    unfold sForM at q
    cases c0 : getS ρ i with
    | none => rw [c0] at q; exact q.elim
    | some t0 =>
    rw [c0] at q
    cases t0 with
    | lst ts =>
      simp only at q
      split at q
      · exact q.elim
      · rename_i hcond
        simp only [Bool.or_eq_true, beq_iff_eq, List.contains_eq_mem, decide_eq_true_eq, not_or] at hcond
        obtain ⟨⟨nij, nis⟩, njs⟩ := hcond
        obtain ⟨v0, hv0, r0⟩ := s.sl i _ (getS_some c0)
        have s1 := s.drop i
        have x1 := Ext.drop F H0 fp i
        have m1 : Tmp (Px X cls) F H0 (fun k => if k = i then [] else fp k) v0 (.lst ts) (fp i) := ⟨r0, fun a ha k hk => by
          split at hk
          · simp at hk
          · exact s.dj k i (by assumption) a hk ha, s.ff i⟩
        have om : OutM (Px X cls) W (j :: st) F H0 σ0 fp D i (loopM j g ts [] (ρ.set i none)) := by
          cases c1 : loopM j g ts [] (ρ.set i none) with
          | fin ts' ρ' =>
            rw [c1] at q
            simp only at q
            cases c2 : setS i (.lst ts') ρ' with
            | none => rw [c2] at q; exact q.elim
            | some ρ2 => rw [c2] at q; exact ⟨ρ2, c2, q⟩
          | out o => rw [c1] at q; exact q
        clear q
        obtain ⟨a, rfl⟩ : ∃ a, v0 = .ref a := by
          generalize fp i = A0 at r0
          cases r0 with
          | lst _ _ _ => exact ⟨_, rfl⟩
        have sq : ∀ {F' H' : Hp} {fp' : Nat → List Addr} {us : List T} {B : List Addr}, Tmp (Px X cls) F' H' fp' (.ref a) (.lst us) B → ∃ vs, H' a = some (.lst vs) ∧ vs.length = us.length := fun m => by
          obtain ⟨r, _, _⟩ := m
          cases r with
          | lst h1 h2 _ => exact ⟨_, h1, h2.length⟩
        obtain ⟨vs0, hH0, hl0⟩ := sq m1
        refine ⟨.ref a, hv0, a, rfl, .inl ⟨⟨vs0, .of hH0⟩, ?_⟩⟩
        refine ⟨fun k m σ H => m = ts.length - k ∧ ∃ ρ1 F1 fp1 done rem B, done.length = k ∧ rem.length = ts.length - k ∧ k ≤ ts.length ∧ Sim (Px X cls) F1 H σ ρ1 fp1 ∧ Ext F H0 fp F1 H fp1 B ∧ Ag (j :: st) σ0 σ ∧ Tmp (Px X cls) F1 H fp1 (.ref a) (.lst (done ++ rem)) B ∧ OutM (Px X cls) W (j :: st) F H0 σ0 fp D i (loopM j g rem done ρ1),
          ⟨ts.length, rfl, ρ.set i none, F, _, [], ts, fp i, rfl, by simp, Nat.zero_le _, s1, x1, Ag.refl _ _, by simpa using m1, om⟩, ?_⟩
        rintro k m σ H ⟨rfl, ρ1, F1, fp1, done, rem, B, hk, hr, hkn, s1, x1, ag, mB, o⟩
        obtain ⟨vs, hH, hl⟩ := sq mB
        cases rem with
        | nil =>
          left
          have : k = ts.length := by simp at hr; omega
          obtain ⟨ρ2, h2, o⟩ := o
          unfold setS at h2
          split at h2
          · rename_i l
            cases h2
            rw [List.append_nil] at mB hl
            have hi : σ[i]? = some (some (.ref a)) := by rw [ag.2 i (by simp [nij, nis])]; exact hv0
            have s2 := s1.set mB l
            rw [set_same hi] at s2
            refine ⟨⟨vs, .of hH, by omega⟩, o σ F1 H _ s2 (x1.cells fun b c z => ?_) ag⟩
            split at z
            · exact .inr z
            · exact .inl ⟨c, z⟩
          · cases h2
        | cons t rem =>
          right
          have lt : k < vs.length := by rw [hl]; simp; omega
          refine ⟨⟨vs, vs[k], .of hH, by simp [lt]⟩, fun σ' H' => ∃ ρ1 F1 fp1 done rem B, done.length = k + 1 ∧ rem.length = ts.length - (k + 1) ∧ k + 1 ≤ ts.length ∧ Sim (Px X cls) F1 H' σ' ρ1 fp1 ∧ Ext F H0 fp F1 H' fp1 B ∧ Ag (j :: st) σ0 σ' ∧ Tmp (Px X cls) F1 H' fp1 (.ref a) (.lst (done ++ rem)) B ∧ OutM (Px X cls) W (j :: st) F H0 σ0 fp D i (loopM j g rem done ρ1),
            fun σ' H' h => ⟨ts.length - (k + 1), by simp at hr; omega, rfl, h⟩, fun v H' y => ?_⟩
          obtain ⟨rfl, y⟩ := y
          have ev := y vs (.of hH)
          obtain ⟨r, dj, ff⟩ := mB
          cases r with
          | @lst _ vs2 _ A h1 h2 na =>
            rw [hH] at h1
            cases h1
            obtain ⟨va, vb, A1, A2, rfl, ra, rb, rfl, d12⟩ := RA.split h2
            cases rb with
            | @cons w vb _ _ A3 A4 r3 r4 n34 =>
              have la : va.length = k := by rw [ra.length]; exact hk
              have : v = w := by
                rw [List.getElem?_append_right (by omega)] at ev
                simp [la] at ev
                exact ev.symm
              subst this
              simp only [loopM] at o
              cases c1 : setS j t ρ1 with
              | none => rw [c1] at o; exact o.elim
              | some ρf =>
              rw [c1] at o
              simp only at o
              unfold setS at c1
              split at c1
              · rename_i lj
                cases c1
                have s2 := s1.set (i := j) ⟨r3, fun b z => dj b (by simp [z]), fun b z => ff b (by simp [z])⟩ lj
                have cc2 : ∀ b c, b ∈ (fun c => if c = j then A3 else fp1 c) c → (∃ c, b ∈ fp1 c) ∨ b ∈ A3 := fun b c z => by
                  simp only at z
                  split at z
                  · exact .inr z
                  · exact .inl ⟨c, z⟩
                have g2 : Ag [j] σ (σ.set j (some v)) := Ag.set
                have hvj : (σ.set j (some v))[j]? = some (some v) := List.getElem?_set_self (by rw [s1.len]; exact lj)
                generalize hσ2 : σ.set j (some v) = σ2 at s2 g2 hvj ⊢
                generalize hfp2 : (fun c => if c = j then A3 else fp1 c) = fp2 at s2 cc2
                generalize hρf : ρ1.set j (some t) = ρf at s2 o ⊢
                show tS (Px X cls) W st g _ (σ.set j (some v)) H'
                rw [hσ2]
                refine ⟨ρf, F1, fp2, s2, ?_⟩
                have x02 : Ext F H0 fp F1 H' fp2 (a :: (A1 ++ (A3 ++ A4))) := ⟨x1.keep, x1.fsub, x1.fnew, fun b z => by
                  rcases z with z | ⟨c, z⟩
                  · exact x1.own b (.inl z)
                  · rcases cc2 b c z with z | z
                    · exact x1.own b (.inr z)
                    · exact x1.own b (.inl (by simp [z]))⟩
                have live : Live H' (a :: (A1 ++ A4)) := fun b z => by
                  rcases List.mem_cons.mp z with rfl | z
                  · exact ⟨_, hH, rfl⟩
                  · rcases List.mem_append.mp z with z | z
                    · exact ra.live b z
                    · exact r4.live b z
                have bd : ∀ b, b ∈ a :: (A1 ++ A4) → ∀ c, b ∉ fp2 c := fun b z c w => by
                  have zz : b ∈ a :: (A1 ++ (A3 ++ A4)) := by
                    simp only [List.mem_cons, List.mem_append] at z ⊢
                    rcases z with z | z | z
                    · exact .inl z
                    · exact .inr (.inl z)
                    · exact .inr (.inr (.inr z))
                  rcases cc2 b c w with ⟨e, w⟩ | w
                  · exact dj b zz e w
                  · simp only [List.mem_cons, List.mem_append] at z
                    rcases z with rfl | z | z
                    · exact na (by simp [w])
                    · exact d12 b z (by simp [w])
                    · exact n34 b w z
                have bf : ∀ b, b ∈ a :: (A1 ++ A4) → F1 b = none := fun b z => ff b (by
                    simp only [List.mem_cons, List.mem_append] at z ⊢
                    rcases z with z | z | z
                    · exact .inl z
                    · exact .inr (.inl z)
                    · exact .inr (.inr (.inr z)))
                have ag2 : Ag (j :: st) σ0 σ2 := (ag.trans g2).mono fun c z => by
                  rcases List.mem_append.mp z with z | z
                  · exact z
                  · simp at z; simp [z]
                have nxt : ∀ (ρ2 : Rho), OutM (Px X cls) W (j :: st) F H0 σ0 fp D i (match getS ρ2 j with
                      | some t' => loopM j g rem (done ++ [t']) (ρ2.set j none)
                      | none => .out .bad) → ∀ σ3 F3 H3 fp3, Sim (Px X cls) F3 H3 σ3 ρ2 fp3 → Ext F1 H' fp2 F3 H3 fp3 [] → Ag st σ2 σ3 →
                    ∃ ρ1 F1 fp1 done rem B, done.length = k + 1 ∧ rem.length = ts.length - (k + 1) ∧ k + 1 ≤ ts.length ∧ Sim (Px X cls) F1 H3 σ3 ρ1 fp1 ∧ Ext F H0 fp F1 H3 fp1 B ∧ Ag (j :: st) σ0 σ3 ∧ Tmp (Px X cls) F1 H3 fp1 (.ref a) (.lst (done ++ rem)) B ∧ OutM (Px X cls) W (j :: st) F H0 σ0 fp D i (loopM j g rem done ρ1) := fun ρ2 o σ3 F3 H3 fp3 s3 x3 g3 => by
                  cases c3 : getS ρ2 j with
                  | none => rw [c3] at o; exact o.elim
                  | some t' =>
                    rw [c3] at o
                    simp only at o
                    obtain ⟨k1, k2, k3⟩ := cells_on s2 x3 s3 live bd bf
                    obtain ⟨v', hv', r'⟩ := s3.sl j t' (getS_some c3)
                    have tu := s2.tups x3
                    have same : v' = v := by
                      rw [g3.2 j njs, hvj] at hv'
                      cases hv'; rfl
                    subst same
                    have n1 : ∀ b, b ∈ A1 → b ∉ fp3 j := fun b z => k2 b (by simp [z]) j
                    refine ⟨ρ2.set j none, F3, _, done ++ [t'], rem, a :: (A1 ++ (fp3 j ++ A4)), by simp [hk], by simp at hr; omega, by simp at hr; omega, s3.drop j, ?_, (ag2.trans g3).mono fun c z => ?_, ⟨?_, fun b z c w => ?_, fun b z => ?_⟩, o⟩
                    · have x03 := (x02.trans x3).trans (Ext.drop F3 H3 fp3 j)
                      refine x03.more fun b z => ?_
                      simp only [List.mem_cons, List.mem_append] at z
                      rcases z with rfl | z | z | z
                      · exact .inr (x02.own _ (.inl (by simp)))
                      · exact .inr (x02.own b (.inl (by simp [z])))
                      · exact .inl z
                      · exact .inr (x02.own b (.inl (by simp [z])))
                    · rcases List.mem_append.mp z with z | z
                      · exact z
                      · simp [z]
                    · have e1 : (done ++ [t']) ++ rem = done ++ t' :: rem := by simp
                      rw [e1]
                      refine .lst ((k1 a (by simp)).trans hH) (RA.join (ra.frame x3.fsub tu fun b z => k1 b (by simp [z])) (.cons r' (r4.frame x3.fsub tu fun b z => k1 b (by simp [z])) fun b z w => k2 b (by simp [w]) j z) fun b z w => ?_) fun z => ?_
                      · rcases List.mem_append.mp w with w | w
                        · exact n1 b z w
                        · exact d12 b z (by simp [w])
                      · simp only [List.mem_append] at z
                        rcases z with z | z | z
                        · exact na (by simp [z])
                        · exact k2 a (by simp) j z
                        · exact na (by simp [z])
                    · split at w
                      · simp at w
                      · rename_i ncj
                        simp only [List.mem_cons, List.mem_append] at z
                        rcases z with rfl | z | z | z
                        · exact k2 _ (by simp) c w
                        · exact k2 b (by simp [z]) c w
                        · exact s3.dj j c (fun e => ncj e.symm) b z w
                        · exact k2 b (by simp [z]) c w
                    · simp only [List.mem_cons, List.mem_append] at z
                      rcases z with rfl | z | z | z
                      · exact k3 _ (by simp)
                      · exact k3 b (by simp [z])
                      · exact s3.ff j b z
                      · exact k3 b (by simp [z])
                cases c3 : g ρf with
                | nx ρ2 => rw [c3] at o; exact nxt ρ2 o
                | ct ρ2 => rw [c3] at o; exact nxt ρ2 o
                | rt t2 ρ2 =>
                  rw [c3] at o
                  have ho : OutS (Px X cls) W (j :: st) F H0 σ0 fp D (.rt t2 ρ2) := o
                  exact fun v σ' F' H4 fp' B s m y g' => OutS.shift ho x02 ag2 v σ' F' H4 fp' B s m y (g'.mono fun c z => List.mem_cons_of_mem _ z)
                | ex c' u ρ2 =>
                  rw [c3] at o
                  have ho : OutS (Px X cls) W (j :: st) F H0 σ0 fp D (.ex c' u ρ2) := o
                  exact fun v σ' F' H4 fp' B s m y g' => OutS.shift ho x02 ag2 v σ' F' H4 fp' B s m y (g'.mono fun c z => List.mem_cons_of_mem _ z)
                | bad => rw [c3] at o; exact o
              · cases c1
    | _ => exact q.elim
end
end Hu
set_option Elab.async false
set_option linter.all false
set_option maxRecDepth 100000
/-! HuT: dicts. -/
namespace Hu
open PySem L2
def keyOf : T → Option Key
  | .d (.int i) => some (.inl i)
  | .d (.str z) => some (.inr z)
  | _ => none
def keyD : D → Option Key
  | .int i => some (.inl i)
  | .str z => some (.inr z)
  | _ => none
def keysD : List D → Option (List Key)
  | [] => some []
  | x :: xs => match keyD x, keysD xs with
    | some k, some ks => some (k :: ks)
    | _, _ => none
def tkeyOf : T → Option (List Key)
  | .d (.tuple ds) => keysD ds
  | _ => none
section
variable {K : Par} {F H : Hp} {v : V} {t : T} {A : List Addr}
theorem keyOf_at {k : Key} (r : R K F H v t A) (h : keyOf t = some k) : v = kV k := by
  unfold keyOf at h
  split at h
  · cases h; rw [r.int]; rfl
  · cases h; rw [r.str]; rfl
  · cases h
theorem keysD_at {K : Par} {F : Hp} : ∀ {vs : List V} {ds : List D} {ks : List Key}, FzA K F vs ds → keysD ds = some ks → vs = ks.map kV
  | _, _, ks, .nil, h => by simp [keysD] at h; subst h; rfl
  | _, _, ks, .cons (x := x) (xs := xs) h1 h2, h => by
    simp only [keysD] at h
    cases q1 : keyD x with
    | none => rw [q1] at h; simp at h
    | some k =>
      cases q2 : keysD xs with
      | none => rw [q1, q2] at h; simp at h
      | some ks' =>
        rw [q1, q2] at h; simp at h; subst h
        have e2 := keysD_at h2 q2
        unfold keyD at q1
        split at q1
        · cases q1; cases h1; simp [e2, kV]
        · cases q1; cases h1; simp [e2, kV]
        · cases q1
theorem tkeyOf_at {ks : List Key} (e : Same F H) (r : R K F H v t A) (h : tkeyOf t = some ks) : ∃ b, v = .ref b ∧ H b = some (.tup (ks.map kV)) := by
  unfold tkeyOf at h
  split at h
  · have fz := r.fz
    cases fz with
    | tup h1 h2 =>
      have := keysD_at h2 h
      subst this
      exact ⟨_, rfl, e _ _ h1⟩
  · cases h
/-- a look into pairs -/
def getK {κ α : Type} [DecidableEq κ] (kvs : List (κ × α)) (k : κ) : Option α := (kvs.find? fun kv => decide (kv.1 = k)).map (·.2)
theorem getK_none {κ α β : Type} [DecidableEq κ] : ∀ {es : List (κ × α)} {kvs : List (κ × β)} {k : κ}, es.map Prod.fst = kvs.map Prod.fst → (getK es k).isSome = (getK kvs k).isSome
  | [], [], _, _ => rfl
  | [], _ :: _, _, h => by simp at h
  | _ :: _, [], _, h => by simp at h
  | (a, v) :: es, (b, w) :: kvs, k, h => by
    (simp only [List.map_cons, List.cons.injEq] at h)
    obtain ⟨h1, h2⟩ := h
    subst h1
    by_cases c : a = k
    · simp [getK, List.find?_cons, c]
    · have := getK_none (k := k) h2
      simp only [getK, List.find?_cons, c, decide_false] at this ⊢
      exact this
theorem getK_some {κ : Type} [DecidableEq κ] : ∀ {es : List (κ × V)} {kvs : List (κ × T)} {k : κ} {A : List Addr} {t : T}, es.map Prod.fst = kvs.map Prod.fst → RA K F H (es.map Prod.snd) (kvs.map Prod.snd) A → getK kvs k = some t → ∃ v B, getK es k = some v ∧ R K F H v t B ∧ ∀ a, a ∈ B → a ∈ A
  | [], [], _, _, _, _, _, q => by simp [getK] at q
  | [], _ :: _, _, _, _, h, _, _ => by simp at h
  | _ :: _, [], _, _, _, h, _, _ => by simp at h
  | (a, v) :: es, (b, w) :: kvs, k, _, t, h, .cons r1 r2 n, q => by
    (simp only [List.map_cons, List.cons.injEq] at h)
    obtain ⟨h1, h2⟩ := h
    subst h1
    by_cases c : a = k
    · simp [getK, List.find?_cons, c] at q
      subst q
      exact ⟨v, _, by simp [getK, List.find?_cons, c], r1, fun a z => List.mem_append_left _ z⟩
    · have q' : getK kvs k = some t := by
        simp only [getK, List.find?_cons, c, decide_false] at q ⊢
        exact q
      obtain ⟨v', B, e, r, i⟩ := getK_some h2 r2 q'
      refine ⟨v', B, ?_, r, fun a z => List.mem_append_right _ (i a z)⟩
      simp only [getK, List.find?_cons, c, decide_false] at e ⊢
      exact e
end
/-! ### k in d -/
def kInK (neg : Bool) (a b : T) : Option T := match b with
  | .dK kvs => (keyOf a).map fun k => .d (.bool (if neg then !(getK kvs k).isSome else (getK kvs k).isSome))
  | .dT kvs => (tkeyOf a).map fun k => .d (.bool (if neg then !(getK kvs k).isSome else (getK kvs k).isSome))
  | _ => none
def rDIn (neg : Bool) : R2 := fun x y H Q => ∃ (a : Addr) (o : Option V), y = .ref a ∧ DGet H a x o ∧ Q (.bl (if neg then !o.isSome else o.isSome)) H
section
variable {X : Cx}
theorem op_din (hu : X.A.units + 1 < cLine) : OpR X (compareOp .In) (rDIn false) := fun pins s σ H x y v u Q I rx ry q => by
  obtain ⟨a, o, rfl, g, q⟩ := q
  (obtain rfl : u = Value.ref a := ry)
  exact d_in hu I g rx fun s' I' => ⟨.bl o.isSome, H, I', rfl, q⟩
theorem op_dnotin (hu : X.A.units + 1 < cLine) : OpR X (compareOp .NotIn) (rDIn true) := fun pins s σ H x y v u Q I rx ry q => by
  obtain ⟨a, o, rfl, g, q⟩ := q
  (obtain rfl : u = Value.ref a := ry)
  exact d_notIn hu I g rx fun s' I' => ⟨.bl (!o.isSome), H, I', rfl, q⟩
end
theorem p_inK {K : Par} (neg : Bool) : Pure2 K (rDIn neg) (kInK neg) := fun x y tx ty Ax Ay F H t e r1 r2 q Q m => by
  unfold kInK at q
  split at q
  · rename_i kvs
    simp only [Option.map_eq_some_iff] at q
    obtain ⟨k, hk, rfl⟩ := q
    have := keyOf_at r1 hk
    subst this
    cases r2 with
    | @dK a es _ A h1 h2 h3 h4 =>
      refine ⟨a, _, rfl, .inl ⟨es, k, .inl h1, rfl, rfl⟩, ?_⟩
      have e1 : (valV es k).isSome = (getK kvs k).isSome := getK_none h2
      rw [e1]
      exact mk_scal m e (.bl _)
  · rename_i kvs
    simp only [Option.map_eq_some_iff] at q
    obtain ⟨k, hk, rfl⟩ := q
    obtain ⟨b, rfl, hb⟩ := tkeyOf_at e r1 hk
    cases r2 with
    | @dT a es _ A h1 h2 h3 h4 =>
      refine ⟨a, _, rfl, .inr ⟨es, k, b, .inl h1, rfl, hb, rfl⟩, ?_⟩
      have e1 : (valV es k).isSome = (getK kvs k).isSome := getK_none h2
      rw [e1]
      exact mk_scal m e (.bl _)
  · cases q
/-! ### d[k] -/
def rDIx : R2 := fun x y H Q => ∃ (a : Addr) (v : V), x = .ref a ∧ ((∃ kvs, H a = some (.dK kvs)) ∨ ∃ kvs, H a = some (.dT kvs)) ∧ DGet H a y (some v) ∧ Q v H
theorem ix_dic {X : Cx} (hu : X.A.units + 1 < cLine) : IxR X rDIx := by
  (intro value slice pins s σ H x y v u Q I rx ry h hs)
  obtain ⟨a, w, rfl, hk, g, q⟩ := h
  (obtain rfl : v = Value.ref a := rx)
  obtain ⟨hT, _⟩ := tyV_is I (x := .ref a) (v := .ref a) rfl (T := "dict") (.inr (.inr (.inl ⟨rfl, hk⟩)))
  exact PyProof.Rows.tail_any hT PySem.F.slot_dict_getitem.lookup (d_getItem hu I g ry fun w' s' I' r' => ⟨w, H, I', r', q⟩) hs
def kIxK (a b : T) : Option T := match a with
  | .dK kvs => (keyOf b).bind fun k => getK kvs k
  | .dT kvs => (tkeyOf b).bind fun k => getK kvs k
  | _ => none
theorem kIxK_at {K : Par} : IxK K rDIx kIxK := by
  intro F H e x y tx ty t Ax Ay r1 r2 q
  unfold kIxK at q
  split at q
  · rename_i kvs
    simp only [Option.bind_eq_some_iff] at q
    obtain ⟨k, hk, q⟩ := q
    have := keyOf_at r2 hk
    subst this
    cases r1 with
    | @dK a es _ A h1 h2 h3 h4 =>
      obtain ⟨v, B, e1, r, i⟩ := getK_some h2 h3 q
      exact ⟨v, B, r, fun b z => List.mem_cons_of_mem _ (i b z), fun Q z => ⟨a, v, rfl, .inl ⟨_, h1⟩, .inl ⟨es, k, .inl h1, rfl, e1.symm⟩, z⟩⟩
  · rename_i kvs
    simp only [Option.bind_eq_some_iff] at q
    obtain ⟨k, hk, q⟩ := q
    obtain ⟨b, rfl, hb⟩ := tkeyOf_at e r2 hk
    cases r1 with
    | @dT a es _ A h1 h2 h3 h4 =>
      obtain ⟨v, B, e1, r, i⟩ := getK_some h2 h3 q
      exact ⟨v, B, r, fun b z => List.mem_cons_of_mem _ (i b z), fun Q z => ⟨a, v, rfl, .inr ⟨_, h1⟩, .inr ⟨es, k, b, .inl h1, rfl, hb, e1.symm⟩, z⟩⟩
  · cases q
def kIxA (a b : T) : Option T := (kIx a b).or (kIxK a b)
theorem kIxA_at {K : Par} : IxK K (fun x y H Q => rIx K.K x y H Q ∨ rDIx x y H Q) kIxA := by
  intro F H e x y tx ty t Ax Ay r1 r2 q
  unfold kIxA at q
  cases c : kIx tx ty with
  | some u =>
    rw [c] at q
    simp at q
    subst q
    obtain ⟨v, B, r, i, z⟩ := kIx_at e r1 r2 c
    exact ⟨v, B, r, i, fun Q w => .inl (z Q w)⟩
  | none =>
    rw [c] at q
    simp at q
    obtain ⟨v, B, r, i, z⟩ := kIxK_at e r1 r2 q
    exact ⟨v, B, r, i, fun Q w => .inr (z Q w)⟩
section
variable {X : Cx} {cls : Str → Addr} {W : XW} {e a b c : Expr} {pos p p2 : Pos} {oa ob oc o : Opd} {x : Str} {i : Nat}
theorem de_ixA (hu : X.A.units + 1 < cLine) (ha : DE X cls W a oa) (hb : DE X cls W b ob) (hs : isSlice b = false) : DE X cls W (.Subscript a b pos) (oIx kIxA oa ob) := de_ixG (ix_seq.or (ix_dic hu)) kIxA_at ha hb hs
/-! ### {} -/
def gNewK : G T := fun ρ => .ok (.dK []) ρ
def gNewT : G T := fun ρ => .ok (.dT []) ρ
theorem new_cell {K : Par} {F H : Hp} {σ : St} {ρ : Rho} {fp : Nat → List Addr} {q : Addr} {o : HO} (s : Sim K F H σ ρ fp) (n : H q = none) : (∀ b, b ∈ [q] → ∀ i, b ∉ fp i) ∧ ∀ b, b ∈ [q] → F b = none :=
  ⟨fun b z i w => by
    have := List.mem_singleton.mp z
    subst this
    exact live_ne (s.mt i) n w, fun b z => by
    have := List.mem_singleton.mp z
    subst this
    exact s.sub.free n⟩
theorem de_newK : DE X cls W (.Dict [] [] pos) (.val gNewK) :=
  ⟨pe_dnewK.imp fun σ H Q q => by
    obtain ⟨ρ, F, fp, s, q⟩ := q
    intro d n
    obtain ⟨h1, h2⟩ := new_cell (o := .dK []) s n
    exact q _ F _ fp [d] (s.laid n) ⟨.dK upd_same rfl .nil (by simp), h1, h2⟩ (Ext.laid n (by simpa using n)), rfl⟩
theorem de_newT : DE X cls W (.Dict [] [] pos) (.val gNewT) :=
  ⟨pe_dnewT.imp fun σ H Q q => by
    obtain ⟨ρ, F, fp, s, q⟩ := q
    intro d n
    obtain ⟨h1, h2⟩ := new_cell (o := .dT []) s n
    exact q _ F _ fp [d] (s.laid n) ⟨.dT upd_same rfl .nil (by simp), h1, h2⟩ (Ext.laid n (by simpa using n)), rfl⟩
end
/-! ### len of a dict by tuples -/
def kLenT : T → Option T
  | .dT kvs => some (.d (.int (kvs.length : Int)))
  | _ => none
theorem p_lenT {K : Par} : PureN K rLenT (kk1 kLenT) := fun vs ts F H t e p q Q m => by
  obtain ⟨a, rfl, q2⟩ := kk1_some q
  obtain ⟨v, rfl, A, r⟩ := pairedOne p
  clear q p
  unfold kLenT at q2
  split at q2
  · rename_i kvs
    cases q2
    cases r with
    | @dT a es _ A h1 h2 h3 h4 =>
      have hl : es.length = kvs.length := by simpa using congrArg List.length h2
      exact ⟨a, es, rfl, h1, by rw [hl]; exact mk_scal m e (.int _)⟩
  · cases q2
/-! ### d[k] = v -/
def putT {κ : Type} [DecidableEq κ] (kvs : List (κ × T)) (k : κ) (v : T) : List (κ × T) := if (kvs.any fun kv => decide (kv.1 = k)) = true then kvs.map (fun kv => if kv.1 = k then (kv.1, v) else kv) else kvs ++ [(k, v)]
theorem RA.mapPut {K : Par} {F H : Hp} {κ : Type} [DecidableEq κ] {k : κ} {v : V} {t : T} {B : List Addr} (r : R K F H v t B) : ∀ {es : List (κ × V)} {kvs : List (κ × T)} {A : List Addr}, es.map Prod.fst = kvs.map Prod.fst → (kvs.map Prod.fst).Nodup → RA K F H (es.map Prod.snd) (kvs.map Prod.snd) A → (∀ a, a ∈ A → a ∉ B) →
    ∃ A1, RA K F H ((es.map fun kv => if kv.1 = k then (kv.1, v) else kv).map Prod.snd) ((kvs.map fun kv => if kv.1 = k then (kv.1, t) else kv).map Prod.snd) A1 ∧ (∀ a, a ∈ A1 → a ∈ A ∨ (a ∈ B ∧ k ∈ kvs.map Prod.fst))
  | [], [], _, _, _, .nil, _ => ⟨[], .nil, fun a h => by simp at h⟩
  | [], _ :: _, _, h, _, _, _ => by simp at h
  | _ :: _, [], _, h, _, _, _ => by simp at h
  | (a, u) :: es, (b, w) :: kvs, _, h, nd, .cons (A := A1) (B := A2) r1 r2 n, d => by
    (simp only [List.map_cons, List.cons.injEq] at h)
    obtain ⟨h1, h2⟩ := h
    subst h1
    simp only [List.map_cons, List.nodup_cons] at nd
    obtain ⟨A3, r3, i3⟩ := RA.mapPut (k := k) r h2 nd.2 r2 fun c z => d c (List.mem_append_right _ z)
    by_cases c : a = k
    · subst c
      have i4 : ∀ c, c ∈ A3 → c ∈ A2 := fun c z => by
        rcases i3 c z with z | ⟨_, z⟩
        · exact z
        · exact absurd z nd.1
      refine ⟨B ++ A3, by simpa using RA.cons r r3 fun c z w => d c (List.mem_append_right _ (i4 c w)) z, fun c z => ?_⟩
      rcases List.mem_append.mp z with z | z
      · exact .inr ⟨z, by simp⟩
      · exact .inl (List.mem_append_right _ (i4 c z))
    · have dd : ∀ e, e ∈ A1 → e ∉ A3 := fun e z w => ?_
      refine ⟨A1 ++ A3, by simpa [c] using RA.cons r1 r3 dd, fun e z => ?_⟩
      rotate_left
      · rcases i3 e w with w | ⟨w, _⟩
        · exact n e z w
        · exact d e (List.mem_append_left _ z) w
      · rcases List.mem_append.mp z with z | z
        · exact .inl (List.mem_append_left _ z)
        · rcases i3 e z with z | ⟨z, y⟩
          · exact .inl (List.mem_append_right _ z)
          · exact .inr ⟨z, by simp [y]⟩
theorem RA.mapPut0 {K : Par} {F H : Hp} {κ : Type} [DecidableEq κ] {k : κ} {v : V} {x : D} (r : Fz K F v x) : ∀ {es : List (κ × V)} {kvs : List (κ × T)} {A : List Addr}, es.map Prod.fst = kvs.map Prod.fst → RA K F H (es.map Prod.snd) (kvs.map Prod.snd) A →
    ∃ A1, RA K F H ((es.map fun kv => if kv.1 = k then (kv.1, v) else kv).map Prod.snd) ((kvs.map fun kv => if kv.1 = k then (kv.1, T.d x) else kv).map Prod.snd) A1 ∧ ∀ a, a ∈ A1 → a ∈ A
  | [], [], _, _, .nil => ⟨[], .nil, fun a h => by simp at h⟩
  | [], _ :: _, _, h, _ => by simp at h
  | _ :: _, [], _, h, _ => by simp at h
  | (a, u) :: es, (b, w) :: kvs, _, h, .cons (A := A1) (B := A2) r1 r2 n => by
    (simp only [List.map_cons, List.cons.injEq] at h)
    obtain ⟨h1, h2⟩ := h
    subst h1
    obtain ⟨A3, r3, i3⟩ := RA.mapPut0 (k := k) r h2 r2
    by_cases c : a = k
    · subst c
      exact ⟨[] ++ A3, by simpa using RA.cons (.d r) r3 (by simp), fun c z => List.mem_append_right _ (i3 c (by simpa using z))⟩
    · refine ⟨A1 ++ A3, by simpa [c] using RA.cons r1 r3 fun e z w => n e z (i3 e w), fun e z => ?_⟩
      rcases List.mem_append.mp z with z | z
      · (exact List.mem_append_left _ z)
      · exact List.mem_append_right _ (i3 e z)
def putC {κ : Type} [DecidableEq κ] (kvs : List (κ × T)) (k : κ) (t : T) : Bool := isD (some t) || !(kvs.any fun kv => decide (kv.1 = k)) || decide (kvs.map Prod.fst).Nodup
theorem putT_at {K : Par} {F H : Hp} {κ : Type} [DecidableEq κ] {k : κ} {v : V} {t : T} {A B : List Addr} {es : List (κ × V)} {kvs : List (κ × T)} (h : es.map Prod.fst = kvs.map Prod.fst) (pc : putC kvs k t = true) (ra : RA K F H (es.map Prod.snd) (kvs.map Prod.snd) A) (r : R K F H v t B) (d : ∀ a, a ∈ A → a ∉ B) :
    ∃ A1, (putK es k v).map Prod.fst = (putT kvs k t).map Prod.fst ∧ RA K F H ((putK es k v).map Prod.snd) ((putT kvs k t).map Prod.snd) A1 ∧ ∀ a, a ∈ A1 → a ∈ A ∨ a ∈ B := by
  have ha : (es.any fun kv => decide (kv.1 = k)) = kvs.any fun kv => decide (kv.1 = k) := by
    have : ∀ {α β : Type} (l : List (κ × α)) (m : List (κ × β)), l.map Prod.fst = m.map Prod.fst → (l.any fun kv => decide (kv.1 = k)) = m.any fun kv => decide (kv.1 = k) := fun l m h => by
      have e1 : (l.any fun kv => decide (kv.1 = k)) = (l.map Prod.fst).any fun z => decide (z = k) := by simp [List.any_map, Function.comp_def]
      have e2 : (m.any fun kv => decide (kv.1 = k)) = (m.map Prod.fst).any fun z => decide (z = k) := by simp [List.any_map, Function.comp_def]
      rw [e1, e2, h]
    exact this _ _ h
  unfold putK putT
  rw [ha]
  split
  · rename_i hany
    have key : ∃ A1, RA K F H ((es.map fun kv => if kv.1 = k then (kv.1, v) else kv).map Prod.snd) ((kvs.map fun kv => if kv.1 = k then (kv.1, t) else kv).map Prod.snd) A1 ∧ ∀ a, a ∈ A1 → a ∈ A ∨ a ∈ B := by
      unfold putC at pc
      simp only [hany, Bool.not_true, Bool.or_false, Bool.or_eq_true, decide_eq_true_eq] at pc
      rcases pc with pc | nd
      · cases t with
        | d x =>
          obtain ⟨A1, r1, i1⟩ := RA.mapPut0 (k := k) r.fz h ra
          exact ⟨A1, r1, fun a z => .inl (i1 a z)⟩
        | _ => simp [isD] at pc
      · obtain ⟨A1, r1, i1⟩ := RA.mapPut (k := k) r h nd ra d
        exact ⟨A1, r1, fun a z => (i1 a z).imp id And.left⟩
    obtain ⟨A1, r1, i1⟩ := key
    refine ⟨A1, ?_, r1, i1⟩
    have : ∀ {α : Type} (l : List (κ × α)) (u : α), (l.map fun kv => if kv.1 = k then (kv.1, u) else kv).map Prod.fst = l.map Prod.fst := fun l u => by
      rw [List.map_map]
      apply List.map_congr_left
      intro kv _
      simp only [Function.comp]
      split <;> rfl
    rw [this, this, h]
  · refine ⟨A ++ B, by simp [h], ?_, fun a z => List.mem_append.mp z⟩
    simpa using RA.append ra r d
end Hu
set_option Elab.async false
set_option linter.all false
set_option maxRecDepth 100000
/-! HuU: x[k] = v of lists and dicts; tables of operations. -/
namespace Hu
open PySem L2
def putA (t : T) : Option T → List T → Option T
  | some (.lst xs), [.d (.int k)] => (ixN xs.length k).map fun j => .lst (xs.set j t)
  | some (.dK kvs), [kt] => (keyOf kt).bind fun k => if (decide (kvs.length < sizeLine) && putC kvs k t) = true then some (.dK (putT kvs k t)) else none
  | some (.dT kvs), [kt] => (tkeyOf kt).bind fun k => if (decide (kvs.length < sizeLine) && putC kvs k t) = true then some (.dT (putT kvs k t)) else none
  | _, _ => none
def sPutA (i : Nat) (ob : Opd) (g : G T) : SG := fun ρ => (g ρ).s fun t ρ1 => match getS ρ1 i with
  | none => .bad
  | some _ => (gOs [ob] (fun ts ρ2 => match putA t (getS ρ2 i) ts with
    | some u => .ok () (ρ2.set i (some u))
    | none => .bad) ρ1).s fun _ ρ3 => .nx ρ3
def rSetA : TSet := fun o i v H Q => rSetL o i v H Q ∨ rSetD o i v H Q
theorem set_any {X : Cx} (hu : X.A.units + 1 < cLine) : PSet X rSetA := fun pins s σ H o i v ov iv u Q I ro ri rv q => by
  rcases q with q | q
  · exact set_list pins s σ H o i v ov iv u Q I ro ri rv q
  · exact set_dict hu pins s σ H o i v ov iv u Q I ro ri rv q
theorem putA_at {K : Par} {F H F0 H0 : Hp} {σ : St} {ρ : Rho} {fp fp0 : Nat → List Addr} {B : List Addr} (s : Sim K F H σ ρ fp) (x : Ext F0 H0 fp0 F H fp B) {i : Nat} {v w : V} {t t1 tw u : T} {Aw : List Addr} (hv : σ[i]? = some (some v)) (ht : ρ[i]? = some (some t1)) {vv : V} (m : Tmp K F H fp vv t B) (rw' : R K F H w tw Aw) (q : putA t (some t1) [tw] = some u) :
    ∃ H1 fp1, rSetA v w vv H (fun H' => H' = H1) ∧ Sim K F H1 σ (ρ.set i (some u)) fp1 ∧ Ext F0 H0 fp0 F H1 fp1 [] := by
  obtain ⟨v1, e1, r1⟩ := s.sl i t1 ht
  rw [hv] at e1; cases e1
  unfold putA at q
  split at q
  · rename_i xs k h1 h2
    simp only [Option.some.injEq] at h1
    subst h1
    simp only [List.cons.injEq, and_true] at h2
    subst h2
    simp only [Option.map_eq_some_iff] at q
    obtain ⟨j, hj, rfl⟩ := q
    generalize hA : fp i = A0 at r1
    cases r1 with
    | @lst a vs0 _ A' h1 h2 h3 =>
      obtain ⟨A1, r5, i5⟩ := RA.put h2 (ixN_seq hj).2.1 m.r fun b z w => m.dj b w i (hA ▸ List.mem_cons_of_mem _ z)
      have hn : a ∉ A1 := fun z => by
        rcases i5 _ z with z | z
        · exact h3 z
        · exact m.dj _ z i (hA ▸ List.mem_cons_self)
      obtain ⟨fp3, s3, _, x3⟩ := mut_gen (u := .lst xs) (u2 := .lst (xs.set j t)) (ho := .lst (vs0.set j vv)) (put := id) (a := a) (A' := A') (rv := .non) (rt := .d .none) (C := []) s hv ht (by rw [hA]; exact Loc.refl (.lst h1 h2 h3)) x m.r.live m.ff m.dj h3 rfl
        (fun tu st => .lst upd_same (r5.frame (Same.refl F) tu fun b hb => st b fun e => hn (e ▸ hb)) hn) (.d .non) i5 (by simp) (by simp)
      · exact ⟨_, fp3, .inl ⟨a, vs0, k, j, rfl, rw'.int, h1, by rw [h2.length]; exact hj, rfl⟩, s3, x3⟩
  · rename_i kvs kt h1 h2
    simp only [Option.some.injEq] at h1
    subst h1
    simp only [List.cons.injEq, and_true] at h2
    subst h2
    simp only [Option.bind_eq_some_iff] at q
    obtain ⟨k, hk, q⟩ := q
    split at q
    · rename_i hc
      cases q
      (simp only [Bool.and_eq_true, decide_eq_true_eq] at hc)
      have := keyOf_at rw' hk
      subst this
      generalize hA : fp i = A0 at r1
      cases r1 with
      | @dK a es _ A' h1 h0 h2 h3 =>
        obtain ⟨A1, e5, r5, i5⟩ := putT_at h0 hc.2 h2 m.r fun b z w => m.dj b w i (hA ▸ List.mem_cons_of_mem _ z)
        have hl : es.length = kvs.length := by simpa using congrArg List.length h0
        have hn : a ∉ A1 := fun z => by
          rcases i5 _ z with z | z
          · exact h3 z
          · exact m.dj _ z i (hA ▸ List.mem_cons_self)
        obtain ⟨fp3, s3, _, x3⟩ := mut_gen (u := .dK kvs) (u2 := .dK (putT kvs k t)) (ho := .dK (putK es k vv)) (put := id) (a := a) (A' := A') (rv := .non) (rt := .d .none) (C := []) s hv ht (by rw [hA]; exact Loc.refl (.dK h1 h0 h2 h3)) x m.r.live m.ff m.dj h3 rfl
          (fun tu st => .dK upd_same e5 (r5.frame (Same.refl F) tu fun b hb => st b fun e => hn (e ▸ hb)) hn) (.d .non) i5 (by simp) (by simp)
        · exact ⟨_, fp3, .inr ⟨a, _, rfl, .inl ⟨es, k, h1, rfl, by omega, rfl⟩, rfl⟩, s3, x3⟩
    · cases q
  · rename_i kvs kt h1 h2
    simp only [Option.some.injEq] at h1
    subst h1
    simp only [List.cons.injEq, and_true] at h2
    subst h2
    simp only [Option.bind_eq_some_iff] at q
    obtain ⟨k, hk, q⟩ := q
    split at q
    · rename_i hc
      cases q
      (simp only [Bool.and_eq_true, decide_eq_true_eq] at hc)
      obtain ⟨bk, rfl, hbk⟩ := tkeyOf_at s.sub rw' hk
      generalize hA : fp i = A0 at r1
      cases r1 with
      | @dT a es _ A' h1 h0 h2 h3 =>
        obtain ⟨A1, e5, r5, i5⟩ := putT_at h0 hc.2 h2 m.r fun b z w => m.dj b w i (hA ▸ List.mem_cons_of_mem _ z)
        have hl : es.length = kvs.length := by simpa using congrArg List.length h0
        have hn : a ∉ A1 := fun z => by
          rcases i5 _ z with z | z
          · exact h3 z
          · exact m.dj _ z i (hA ▸ List.mem_cons_self)
        obtain ⟨fp3, s3, _, x3⟩ := mut_gen (u := .dT kvs) (u2 := .dT (putT kvs k t)) (ho := .dT (putK es k vv)) (put := id) (a := a) (A' := A') (rv := .non) (rt := .d .none) (C := []) s hv ht (by rw [hA]; exact Loc.refl (.dT h1 h0 h2 h3)) x m.r.live m.ff m.dj h3 rfl
          (fun tu st => .dT upd_same e5 (r5.frame (Same.refl F) tu fun b hb => st b fun e => hn (e ▸ hb)) hn) (.d .non) i5 (by simp) (by simp)
        · exact ⟨_, fp3, .inr ⟨a, _, rfl, .inr ⟨es, k, bk, h1, rfl, hbk, by omega, rfl⟩, rfl⟩, s3, x3⟩
    · cases q
  · cases q
section
variable {X : Cx} {cls : Str → Addr} {W : XW} {e a b c : Expr} {pos p p2 pt : Pos} {oa ob oc o : Opd} {x y : Str} {i j : Nat}
theorem ds_putA (hu : X.A.units + 1 < cLine) (hN : X.N[i]? = some x) (hv : Vis X.env.scope x) (hd : (x == ("__debug__" : Str)) = false) (hcd : (x == ("__classdict__" : Str)) = false) (he : DE X cls W e o) (hb : DE X cls W b ob) (hst : isStarT (.Subscript (.Name x p) b p2) = false)
    (ha : ∀ v, assign (.Subscript (.Name x p) b p2) X.env v = (do let ov ← holding [v] (eval (.Name x p) X.env); let iv ← holding [v, ov] (eval b X.env); standAt p2; holding [v, ov, iv] (setItem ov iv v); release [v, ov, iv] []))
    (hs : swapsWithSole [.Subscript (.Name x p) b p2] e pos.line X.env = pure false) (hw : swappedStores [.Subscript (.Name x p) b p2] e X.env = pure none) :
    DS X cls W (.Assign [.Subscript (.Name x p) b p2] e pos) [] (sPutA i ob o.vg) :=
  (ps_asg he.own (pg_sub (pe_var hN hv hd hcd) hb.1 (set_any hu) ha) hs hw (assignEach_cons hst)).imp fun D σ H q => by
    obtain ⟨ρ, F, fp, s, q⟩ := q
    refine ⟨ρ, F, fp, s, q.run.imp (Ext.refl F H fp) fun t ρ1 _ q v F1 H1 fp1 A s1 m x1 => ?_⟩
    cases c0 : getS ρ1 i with
    | none => rw [c0] at q; exact q.elim
    | some t0 =>
    rw [c0] at q
    obtain ⟨u0, hu0, _⟩ := s1.sl i t0 (getS_some c0)
    refine ⟨u0, hu0, tC_at ?_⟩
    refine gOs_run (fine1 hb.2) x1 s1 q.run fun vs xs ts ρ2 F2 H2 fp2 B s2 x2 ar fi pr q => ?_
    clear fi
    obtain ⟨m2, _⟩ := m.on s1 x2 s2
    cases c2 : putA t (getS ρ2 i) ts with
    | none => rw [c2] at q; exact q.elim
    | some u =>
      rw [c2] at q
      have hts : ∃ tw, ts = [tw] := by
        unfold putA at c2
        split at c2
        · exact ⟨_, rfl⟩
        · exact ⟨_, rfl⟩
        · exact ⟨_, rfl⟩
        · cases c2
      obtain ⟨tw, rfl⟩ := hts
      obtain ⟨w, rfl, Aw, rw'⟩ := pairedOne pr
      cases c3 : getS ρ2 i with
      | none => rw [c3] at c2; simp [putA] at c2
      | some t1 =>
        rw [c3] at c2
        obtain ⟨H3, fp3, hr, s3, x3⟩ := putA_at s2 ((x1.trans x2).more fun b z => .inr (x1.own b (.inl z))) hu0 (getS_some c3) m2 rw' c2
        refine ⟨w, rfl, ?_⟩
        have fin := q σ F2 H3 fp3 s3 x3 (Ag.refl _ _)
        rcases hr with hr | hr
        · obtain ⟨p', xs', k', j', e1, e2, e3, e4, e5⟩ := hr
          exact .inl ⟨p', xs', k', j', e1, e2, e3, e4, by rw [e5]; exact fin⟩
        · obtain ⟨a', H', e1, e2, e3⟩ := hr
          exact .inr ⟨a', H', e1, e2, by rw [e3]; exact fin⟩
end
end Hu
set_option Elab.async false
set_option linter.all false
set_option maxRecDepth 100000
/-! HuV: sorted of pairs, len(set(..)) of ints; tables of calls and operations. -/
namespace Hu
open PySem L2
/-! ### sorted pairs -/
abbrev PI2 := Int × Int
def leP (p q : PI2) : Bool := !SrtO.lexB q p
theorem leP_iff {p q : PI2} : leP p q = true ↔ p.1 < q.1 ∨ (p.1 = q.1 ∧ p.2 ≤ q.2) := by
  unfold leP
  rw [Bool.not_eq_true', SrtO.lexB_no]
  omega
def sortP (ps : List PI2) : List PI2 := sortB leP ps
theorem sortP_perm (ps : List PI2) : (sortP ps).Perm ps := sortB_perm _ _
theorem sortP_sorted (ps : List PI2) : (sortP ps).Pairwise fun a b => leP a b = true := by
  refine sortB_sorted (fun a b c h1 h2 => ?_) (fun a b h => ?_) ps
  · rw [leP_iff] at *; omega
  · have h2 : ¬ leP a b = true := by simp [h]
    rw [leP_iff] at h2 ⊢; omega
theorem sortedP_unique : ∀ {xs ys : List PI2}, xs.Perm ys → (xs.Pairwise fun a b => leP a b = true) → (ys.Pairwise fun a b => leP a b = true) → xs = ys := by
  intro xs ys p h1 h2
  refine List.Perm.eq_of_pairwise (le := fun a b => leP a b = true) (fun a b _ _ h3 h4 => ?_) h1 h2 p
  rw [leP_iff] at h3 h4
  exact Prod.ext (by omega) (by omega)
def asPairs : List D → Option (List PI2)
  | [] => some []
  | .tuple [.int i, .int j] :: r => (asPairs r).map ((i, j) :: ·)
  | _ :: _ => none
def pD (p : PI2) : D := .tuple [.int p.1, .int p.2]
def kSortP (t : T) : Option T := (listOf t).bind fun ds => (asPairs ds).map fun ps => .lst (((sortP ps).map pD).map T.d)
theorem asPairs_at {K : Par} {F : Hp} : ∀ {ds : List D} {ps : List PI2}, asPairs ds = some ps → ds = ps.map pD
  | [], ps, h => by simp [asPairs] at h; subst h; rfl
  | d :: r, ps, h => by
    unfold asPairs at h
    split at h
    · rename_i e; cases e
    · rename_i i j r' e
      cases e
      (simp only [Option.map_eq_some_iff] at h)
      obtain ⟨qs, h, rfl⟩ := h
      rw [asPairs_at (K := K) (F := F) h]; rfl
    · cases h
def keyP (H : Hp) : V → PI2
  | .ref t => match H t with
    | some (.tup [.int i, .int j]) => (i, j)
    | _ => (0, 0)
  | _ => (0, 0)
theorem pD_at {K : Par} {F H : Hp} (e : Same F H) {v : V} {p : PI2} (h : Fz K F v (pD p)) : ∃ t, v = .ref t ∧ H t = some (.tup [.int p.1, .int p.2]) ∧ keyP H v = p := by
  unfold pD at h
  cases h with
  | tup h1 h2 =>
    cases h2 with
    | cons a b =>
      cases b with
      | cons c d =>
        cases d
        cases a
        cases c
        exact ⟨_, rfl, e _ _ h1, by simp [keyP, e _ _ h1]⟩
theorem pDs_at {K : Par} {F H : Hp} (e : Same F H) : ∀ {vs : List V} {ps : List PI2}, FzA K F vs (ps.map pD) → vs.map (keyP H) = ps ∧ ∀ v, v ∈ vs → Fz K F v (pD (keyP H v))
  | _, [], .nil => ⟨rfl, fun v h => by simp at h⟩
  | _, p :: ps, .cons h1 h2 => by
    obtain ⟨t, rfl, _, e1⟩ := pD_at e h1
    obtain ⟨e2, e3⟩ := pDs_at e h2
    refine ⟨by simp [e1, e2], fun v h => ?_⟩
    (rcases List.mem_cons.mp h with rfl | h)
    · rw [e1]; exact h1
    · exact e3 v h
theorem fzA_of {K : Par} {F H : Hp} : ∀ {vs : List V}, (∀ v, v ∈ vs → Fz K F v (pD (keyP H v))) → FzA K F vs ((vs.map (keyP H)).map pD)
  | [], _ => .nil
  | v :: vs, h => .cons (h v List.mem_cons_self) (fzA_of fun w hw => h w (List.mem_cons_of_mem _ hw))
theorem p_sortP {K : Par} : PureN K (rSortedPO K.K) (kk1 kSortP) := fun vs ts F H t e p q Q m => by
  obtain ⟨a, rfl, c0⟩ := kk1_some q
  replace q := c0
  obtain ⟨v, rfl, A, r⟩ := pairedOne p
  simp only [kSortP, Option.bind_eq_some_iff, Option.map_eq_some_iff] at q
  obtain ⟨ds, q1, ps, q2, rfl⟩ := q
  obtain ⟨a, ws, rfl, h, z⟩ := listOf_at e r q1
  have := asPairs_at (K := K) (F := F) q2
  subst this
  obtain ⟨e1, e2⟩ := pDs_at e z
  refine ⟨a, ws, keyP H, rfl, .of h, fun x hx => ?_, fun ys p hs hb hn => ?_⟩
  · obtain ⟨t, e3, e4, _⟩ := pD_at e (e2 x hx)
    exact ⟨t, e3, e4⟩
  · have hk : ys.map (keyP H) = sortP ps := by
      refine sortedP_unique ((hb.perm.map _).trans (by rw [e1]; exact (sortP_perm ps).symm)) ?_ (sortP_sorted ps)
      rw [List.pairwise_map]
      exact hs.imp fun {u w} h => by
        have h2 : SrtO.lexB (keyP H w) (keyP H u) = false := h
        unfold leP; rw [h2]; rfl
    have fz : FzA K F ys ((sortP ps).map pD) := by
      rw [← hk]
      exact fzA_of fun y hy => e2 y (hb.perm.mem_iff.mp hy)
    exact mk_list m e fz p hn
/-! ### len(set(..)) of ints -/
def tLenSetI (K : PySem.W.Frag) (ta : TE) : TE := fun σ H Q => ta σ H fun x H1 => ∃ l, ∃ ns : List Int, x = .ref l ∧ SqL K H1 l (ns.map V.int) ∧ ns.length + 1 < scanBound ∧ Q (.int ((PyProof.Rows.firstMet (fun i => ns.getD i 0) ns.length).length : Nat)) H1
theorem pe_lenSetI {X : Cx} {a : Expr} {ta : TE} {p p2 q pos : Pos} (hc : X.calm = true) (hg : Gl X "len") (hm : X.mg "len" = none) (hg2 : Gl X "set") (hm2 : X.mg "set" = none) (ha : PE X a ta) (hs : isStar a = false) (hs2 : isStar (.Call (.Name "set" p2) [a] [] q) = false) :
    PE X (.Call (.Name "len" p) [.Call (.Name "set" p2) [a] [] q] [] pos) (tLenSetI X.K ta) := by
  constructor
  intro pins s σ H Q I0 h0
  refine PyProof.Rows.Call_ (ld_blt I0 hg hm boot_len (PyProof.Rows.callWith_builtin1 (PyProof.Rows.args_cons (PyProof.Rows.Call_ (ld_blt I0 hg2 hm2 (by first | exact PyProof.Rows.boot_set | exact boot_set | rfl) ?_)) (star_cons hs2)) (star_cons hs2) rfl))
  refine PyProof.Rows.callWith_type1 (PyProof.Rows.args_cons (thn (ha.run pins s σ H _ I0 h0) fun v s1 w => PyProof.Rows.args_nil ?_) (star_cons hs)) (star_cons hs) rfl
  obtain ⟨x, H1, I1, r1, l, ns, rfl, hq, hb, q1⟩ := w
  cases r1
  obtain ⟨us, rr, pl, hz⟩ := I1.list hq
  have hsz : us.toArray.size = ns.length := by simpa using rr.length.symm
  refine call_set_list (ns := ns) (I1.ok.hd hc) pl.isList (by simpa using rr.ints) (by omega) fun h' tk hS hk => PyProof.Rows.args_nil ?_
  rw [hsz] at hS
  obtain ⟨ob, es, ep, t, ho, hex, hd, e1, e2, e3, hf, hn⟩ := hS
  have J : Inv X pins σ H1 { s1 with heap := h', toks := tk } := I1.kept fun b o e => hk b o (Heap.lt_size e) e
  have few : (PyProof.Rows.firstMet (fun i => ns.getD i 0) ns.length).length ≤ ns.length := PyProof.Rows.firstMet_length_le _ _
  refine call_len_set ho hex hd hf (by have h3 : scanBound ≤ 2 ^ 62 := by decide +kernel
                                       omega) ⟨.int _, H1, J.tok _, ⟨_, by rw [hn]⟩, q1⟩
/-- unlike ints, as met from the left -/
def uniqI (ns : List Int) : List Int := ns.foldl PyProof.Rows.step_dedup []
theorem firstMet_uniq (ns : List Int) : PyProof.Rows.firstMet (fun i => ns.getD i 0) ns.length = uniqI ns := by
  unfold PyProof.Rows.firstMet uniqI
  congr 1
  apply List.ext_getElem?
  intro i
  by_cases h : i < ns.length
  · simp [h, List.getD]
  · simp [h]
def kLenSet (t : T) : Option T := (listOf t).bind fun ds => (asInts ds).bind fun ns => if ns.length + 1 < scanBound then some (.d (.int ((uniqI ns).length : Nat))) else none
section
variable {X : Cx} {cls : Str → Addr} {W : XW} {a : Expr} {o : Opd} {p p2 q pos : Pos}
theorem de_lenSet (hc : X.calm = true) (hg : Gl X "len") (hm : X.mg "len" = none) (hg2 : Gl X "set") (hm2 : X.mg "set" = none) (ha : DE X cls W a o) (hs : isStar a = false) :
    DE X cls W (.Call (.Name "len" p) [.Call (.Name "set" p2) [a] [] q] [] pos) (.val (gOs [o] (kP (kk1 kLenSet)))) :=
  ⟨(pe_lenSetI hc hg hm hg2 hm2 ha.1 hs rfl).imp fun σ H Q q => by
    have z := os_pure (r := fun vs H1 Q => match vs with
      | [x] => ∃ l, ∃ ns : List Int, x = .ref l ∧ SqL X.K H1 l (ns.map V.int) ∧ ns.length + 1 < scanBound ∧ Q (.int ((PyProof.Rows.firstMet (fun i => ns.getD i 0) ns.length).length : Nat)) H1
      | _ => False) (fine1 ha.2) (kk := kk1 kLenSet) (K := Px X cls) (fun vs ts F H t e p q Q m => by
        obtain ⟨a, rfl, c0⟩ := kk1_some q
        clear q
        obtain ⟨v, rfl, A, r⟩ := pairedOne p
        simp only [kLenSet, Option.bind_eq_some_iff] at c0
        obtain ⟨ds, q1, ns, q2, q3⟩ := c0
        split at q3
        · rename_i hb
          cases q3
          obtain ⟨a, ws, rfl, h, z⟩ := listOf_at e r q1
          have := asInts_at q2 z
          subst this
          refine ⟨a, ns, rfl, .of h, hb, ?_⟩
          rw [firstMet_uniq]
          exact mk_scal m e (.int _)
        · cases q3) q
    exact tO_mono z fun v H1 w => w, rfl⟩
end
end Hu
set_option Elab.async false
set_option linter.all false
set_option maxRecDepth 100000
/-! HuW: the rules in short, as a printed proof uses them. -/
namespace Hu
open PySem L2
theorem PureN.or1 {K : Par} {r r' : List V → Hp → VK → Prop} {k k' : T → Option T} (h : PureN K r (kk1 k)) (h' : PureN K r' (kk1 k')) : PureN K (fun vs H Q => r vs H Q ∨ r' vs H Q) (kk1 fun t => (k t).or (k' t)) := fun vs ts F H t e p q Q m => by
  obtain ⟨a, rfl, q2⟩ := kk1_some q
  clear q
  cases c : k a with
  | some u => rw [c] at q2; simp at q2; subst q2; exact .inl (h vs [a] F H u e p (by simp [kk1, c]) Q m)
  | none => rw [c] at q2; simp at q2; exact .inr (h' vs [a] F H t e p (by simp [kk1, q2]) Q m)
section
variable {X : Cx} {cls : Str → Addr} {W : XW} {e a b c tg : Expr} {es : List Expr} {os : List Opd} {pos p p2 p3 : Pos} {oa ob oc o : Opd} {x y : Str} {k : Nat}
theorem n_nm (i : Nat) (hN : X.N[i]? = some x := by rfl) (hv : Vis X.env.scope x := by first | exact .inl rfl | exact .inr (.inl rfl) | exact .inr (.inr rfl)) (hd : (x == ("__debug__" : Str)) = false := by decide) (hcd : (x == ("__classdict__" : Str)) = false := by decide) : DE X cls W (.Name x pos) (.nm i) := de_name hN hv hd hcd
/-! operations -/
theorem n_add (ha : DE X cls W a oa) (hb : DE X cls W b ob) : DE X cls W (.BinOp a .Add b pos) (.val (gP2 kAdd oa ob)) := de_bin (op_add.or (op_add_str.or (op_cat.or op_catA))) (p_addI.or (p_addS.or (p_addL.or p_addT))) ha hb
theorem n_sub (ha : DE X cls W a oa) (hb : DE X cls W b ob) : DE X cls W (.BinOp a .Sub b pos) (.val (gP2 kSubI oa ob)) := de_bin op_sub p_subI ha hb
theorem n_mul (ha : DE X cls W a oa) (hb : DE X cls W b ob) : DE X cls W (.BinOp a .Mult b pos) (.val (gP2 kMul oa ob)) := de_bin (op_mul.or op_rep) (p_mulI.or p_mulL) ha hb
theorem n_div (ha : DE X cls W a oa) (hb : DE X cls W b ob) : DE X cls W (.BinOp a .FloorDiv b pos) (.val (gP2 kDivI oa ob)) := de_bin op_fdiv p_divI ha hb
theorem n_mod (ha : DE X cls W a oa) (hb : DE X cls W b ob) : DE X cls W (.BinOp a .Mod b pos) (.val (gP2 kModI oa ob)) := de_bin op_mod p_modI ha hb
theorem n_pow (ha : DE X cls W a oa) (hb : DE X cls W b ob) : DE X cls W (.BinOp a .Pow b pos) (.val (gP2 kPowI oa ob)) := de_bin op_pow p_powI ha hb
theorem n_neg (ha : DE X cls W a oa) : DE X cls W (.UnaryOp .USub a pos) (.val (gP1 kNeg oa)) := de_un un_neg p_neg ha
/-! comparisons: operation, relation and function of each -/
theorem hu64 (hr : Room k X.A) : X.A.units + 64 < cLine := hr.units
theorem hu65 (hr : Room k X.A) : X.A.units + 65 < cLine := by have := hr.un; omega
def rInA (K : PySem.W.Frag) (neg : Bool) : R2 := fun x y H Q => rIn K neg x y H Q ∨ ((if neg then rNotInD K x y H Q else rInD K x y H Q) ∨ rDIn neg x y H Q)
def kIn (neg : Bool) : T → T → Option T := fun a b => (kInF neg a b).or ((kInD neg a b).or (kInK neg a b))
theorem op_inA (hr : Room k X.A) : OpR X (compareOp .In) (rInA X.K false) := op_in_seq.or ((op_inD (hu65 hr)).or (op_din (hu_of hr)))
theorem op_notInA (hr : Room k X.A) : OpR X (compareOp .NotIn) (rInA X.K true) := op_notIn_seq.or ((op_notInD (hu65 hr)).or (op_dnotin (hu_of hr)))
theorem p_inA {K : Par} (neg : Bool) : Pure2 K (rInA K.K neg) (kIn neg) := (p_inF neg).or (Pure2.or (by cases neg; exact p_inD; exact p_notInD) (p_inK neg))
theorem n_lt (ha : DE X cls W a oa) (hb : DE X cls W b ob) : DT X cls W (.Compare a [.Lt] [b] pos) (gTest (gP2 kLtI oa ob)) := dt_cmp op_lt (nomark b) p_ltI ha hb
theorem n_le (ha : DE X cls W a oa) (hb : DE X cls W b ob) : DT X cls W (.Compare a [.LtE] [b] pos) (gTest (gP2 kLeI oa ob)) := dt_cmp op_le (nomark b) p_leI ha hb
theorem n_gt (ha : DE X cls W a oa) (hb : DE X cls W b ob) : DT X cls W (.Compare a [.Gt] [b] pos) (gTest (gP2 kGtI oa ob)) := dt_cmp op_gt (nomark b) p_gtI ha hb
theorem n_ge (ha : DE X cls W a oa) (hb : DE X cls W b ob) : DT X cls W (.Compare a [.GtE] [b] pos) (gTest (gP2 kGeI oa ob)) := dt_cmp op_ge (nomark b) p_geI ha hb
theorem n_eq (hr : Room k X.A) (ha : DE X cls W a oa) (hb : DE X cls W b ob) : DT X cls W (.Compare a [.Eq] [b] pos) (gTest (gP2 (kEqv false) oa ob)) := dt_cmp (op_eqD (hu64 hr)) (nomark b) p_eq ha hb
theorem n_ne (hr : Room k X.A) (ha : DE X cls W a oa) (hb : DE X cls W b ob) : DT X cls W (.Compare a [.NotEq] [b] pos) (gTest (gP2 (kEqv true) oa ob)) := dt_cmp (op_neD (hu64 hr)) (nomark b) p_ne ha hb
theorem n_in (hr : Room k X.A) (ha : DE X cls W a oa) (hb : DE X cls W b ob) (hm : behindInMarks .In b = false := by with_unfolding_all rfl) : DT X cls W (.Compare a [.In] [b] pos) (gTest (gP2 (kIn false) oa ob)) := dt_cmp (op_inA hr) hm (p_inA false) ha hb
theorem n_notIn (hr : Room k X.A) (ha : DE X cls W a oa) (hb : DE X cls W b ob) (hm : behindInMarks .NotIn b = false := by with_unfolding_all rfl) : DT X cls W (.Compare a [.NotIn] [b] pos) (gTest (gP2 (kIn true) oa ob)) := dt_cmp (op_notInA hr) hm (p_inA true) ha hb
theorem n_is (ha : DE X cls W a oa) (hb : DE X cls W b ob) : DT X cls W (.Compare a [.Is] [b] pos) (gTest (gP2 (kIsN false) oa ob)) := dt_cmp op_isN (nomark b) p_isN ha hb
theorem n_isNot (ha : DE X cls W a oa) (hb : DE X cls W b ob) : DT X cls W (.Compare a [.IsNot] [b] pos) (gTest (gP2 (kIsN true) oa ob)) := dt_cmp op_notN (nomark b) p_notN ha hb
theorem v_lt (ha : DE X cls W a oa) (hb : DE X cls W b ob) : DE X cls W (.Compare a [.Lt] [b] pos) (.val (gP2 kLtI oa ob)) := de_cmp op_lt (nomark b) p_ltI ha hb
theorem v_le (ha : DE X cls W a oa) (hb : DE X cls W b ob) : DE X cls W (.Compare a [.LtE] [b] pos) (.val (gP2 kLeI oa ob)) := de_cmp op_le (nomark b) p_leI ha hb
theorem v_gt (ha : DE X cls W a oa) (hb : DE X cls W b ob) : DE X cls W (.Compare a [.Gt] [b] pos) (.val (gP2 kGtI oa ob)) := de_cmp op_gt (nomark b) p_gtI ha hb
theorem v_ge (ha : DE X cls W a oa) (hb : DE X cls W b ob) : DE X cls W (.Compare a [.GtE] [b] pos) (.val (gP2 kGeI oa ob)) := de_cmp op_ge (nomark b) p_geI ha hb
theorem v_eq (hr : Room k X.A) (ha : DE X cls W a oa) (hb : DE X cls W b ob) : DE X cls W (.Compare a [.Eq] [b] pos) (.val (gP2 (kEqv false) oa ob)) := de_cmp (op_eqD (hu64 hr)) (nomark b) p_eq ha hb
theorem v_ne (hr : Room k X.A) (ha : DE X cls W a oa) (hb : DE X cls W b ob) : DE X cls W (.Compare a [.NotEq] [b] pos) (.val (gP2 (kEqv true) oa ob)) := de_cmp (op_neD (hu64 hr)) (nomark b) p_ne ha hb
theorem v_in (hr : Room k X.A) (ha : DE X cls W a oa) (hb : DE X cls W b ob) (hm : behindInMarks .In b = false := by with_unfolding_all rfl) : DE X cls W (.Compare a [.In] [b] pos) (.val (gP2 (kIn false) oa ob)) := de_cmp (op_inA hr) hm (p_inA false) ha hb
theorem v_notIn (hr : Room k X.A) (ha : DE X cls W a oa) (hb : DE X cls W b ob) (hm : behindInMarks .NotIn b = false := by with_unfolding_all rfl) : DE X cls W (.Compare a [.NotIn] [b] pos) (.val (gP2 (kIn true) oa ob)) := de_cmp (op_notInA hr) hm (p_inA true) ha hb
theorem v_is (ha : DE X cls W a oa) (hb : DE X cls W b ob) : DE X cls W (.Compare a [.Is] [b] pos) (.val (gP2 (kIsN false) oa ob)) := de_cmp op_isN (nomark b) p_isN ha hb
theorem v_isNot (ha : DE X cls W a oa) (hb : DE X cls W b ob) : DE X cls W (.Compare a [.IsNot] [b] pos) (.val (gP2 (kIsN true) oa ob)) := de_cmp op_notN (nomark b) p_notN ha hb
theorem n_tru (ha : DE X cls W a oa) (he : plainTest a = true := by rfl) : DT X cls W a (gTru oa) := dt_tru he ha
/-! calls of built-ins -/
def kLenA : T → Option T := fun t => (kLen t).or (kLenT t)
def kSort : T → Option T := fun t => (kSortI t).or (kSortP t)
theorem n_len (hm : X.mg "len" = none) (ha : DE X cls W a oa) (hs : isStar a = false := by rfl) (hg : Gl X "len" := by rfl) : DE X cls W (.Call (.Name "len" p) [a] [] pos) (.val (gCall (kk1 kLenA) [oa])) := de_call (call_len_seq.or (call_len_str.or call_lenD) |>.or call_len_dT) (PureN.or1 p_len p_lenT) hg hm (by decide +kernel) (.cons hs ha .nil) (by decide) (by decide)
theorem n_abs (hm : X.mg "abs" = none) (ha : DE X cls W a oa) (hs : isStar a = false := by rfl) (hg : Gl X "abs" := by rfl) : DE X cls W (.Call (.Name "abs" p) [a] [] pos) (.val (gCall (kk1 kAbs) [oa])) := de_call call_abs p_abs hg hm (by decide +kernel) (.cons hs ha .nil) (by decide) (by decide)
theorem n_max2 (hc : X.calm = true) (hm : X.mg "max" = none) (ha : DE X cls W a oa) (hb : DE X cls W b ob) (hs : isStar a = false := by rfl) (hs2 : isStar b = false := by rfl) (hg : Gl X "max" := by rfl) : DE X cls W (.Call (.Name "max" p) [a, b] [] pos) (.val (gCall (kk2 kMax2) [oa, ob])) := de_call (call_max2 hc) p_max2 hg hm (by decide +kernel) (.cons hs ha (.cons hs2 hb .nil)) (by decide) (by decide)
theorem n_min2 (hc : X.calm = true) (hm : X.mg "min" = none) (ha : DE X cls W a oa) (hb : DE X cls W b ob) (hs : isStar a = false := by rfl) (hs2 : isStar b = false := by rfl) (hg : Gl X "min" := by rfl) : DE X cls W (.Call (.Name "min" p) [a, b] [] pos) (.val (gCall (kk2 kMin2) [oa, ob])) := de_call (call_min2 hc) p_min2 hg hm (by decide +kernel) (.cons hs ha (.cons hs2 hb .nil)) (by decide) (by decide)
theorem n_int (hm : X.mg "int" = none) (ha : DE X cls W a oa) (hs : isStar a = false := by rfl) (hg : Gl X "int" := by rfl) : DE X cls W (.Call (.Name "int" p) [a] [] pos) (.val (gCall (kk1 kInt1) [oa])) := de_callT call_int1 p_int1 hg hm (by decide +kernel) (.cons hs ha .nil) (by decide) (by decide)
theorem n_list (hm : X.mg "list" = none) (ha : DE X cls W a oa) (hs : isStar a = false := by rfl) (hg : Gl X "list" := by rfl) : DE X cls W (.Call (.Name "list" p) [a] [] pos) (.val (gCall (kk1 kListOf) [oa])) := de_callT call_list_of p_listOf hg hm (by decide +kernel) (.cons hs ha .nil) (by decide) (by decide)
theorem n_tuple (hm : X.mg "tuple" = none) (ha : DE X cls W a oa) (hs : isStar a = false := by rfl) (hg : Gl X "tuple" := by rfl) : DE X cls W (.Call (.Name "tuple" p) [a] [] pos) (.val (gCall (kk1 kTupOf) [oa])) := de_callT call_tuple_of p_tupOf hg hm (by decide +kernel) (.cons hs ha .nil) (by decide) (by decide)
theorem n_sum (hc : X.calm = true) (hm : X.mg "sum" = none) (ha : DE X cls W a oa) (hs : isStar a = false := by rfl) (hg : Gl X "sum" := by rfl) : DE X cls W (.Call (.Name "sum" p) [a] [] pos) (.val (gCall (kk1 kSum) [oa])) := de_call (cr_sumA hc) p_sum hg hm (by decide +kernel) (.cons hs ha .nil) (by decide) (by decide)
theorem n_sorted (hm : X.mg "sorted" = none) (ha : DE X cls W a oa) (hs : isStar a = false := by rfl) (hg : Gl X "sorted" := by rfl) : DE X cls W (.Call (.Name "sorted" p) [a] [] pos) (.val (gCall (kk1 kSort) [oa])) := de_call (cr_sortedI.or cr_sortedPO) (PureN.or1 p_sortI p_sortP) hg hm (by decide +kernel) (.cons hs ha .nil) (by decide) (by decide)
theorem n_all (hc : X.calm = true) (hm : X.mg "all" = none) (ha : DE X cls W a oa) (hs : isStar a = false := by rfl) (hg : Gl X "all" := by rfl) : DE X cls W (.Call (.Name "all" p) [a] [] pos) (.val (gCall (kk1 kAll) [oa])) := de_call (cr_all hc) p_all hg hm (by decide +kernel) (.cons hs ha .nil) (by decide) (by decide)
theorem n_any (hc : X.calm = true) (hm : X.mg "any" = none) (ha : DE X cls W a oa) (hs : isStar a = false := by rfl) (hg : Gl X "any" := by rfl) : DE X cls W (.Call (.Name "any" p) [a] [] pos) (.val (gCall (kk1 kAny) [oa])) := de_call (cr_any hc) p_any hg hm (by decide +kernel) (.cons hs ha .nil) (by decide) (by decide)
end
end Hu
set_option Elab.async false
set_option linter.all false
set_option maxRecDepth 100000
/-! HuX: statements in short; a def that lets nothing out. -/
namespace Hu
open PySem L2
section
variable {X : Cx} {cls : Str → Addr} {W : XW} {e a b c tg iter elt : Expr} {es ifs : List Expr} {os : List Opd} {pos p p2 p3 py spos : Pos} {oa ob oc o : Opd} {x y : Str} {k j n : Nat} {st st' : List Nat} {g : SG} {body : List Stmt} {scope : Scope} {it : G It0} {f : T → Rho → Option Rho} {test : G Bool}
/-- name = [..] in one row -/
theorem ds_setLc {i : Nat} {own : List (Str × Nat)} (hc : X.calm = true) (hN : X.N.Nodup) (hy : X.N[i]? = some y) (hyl : X.env.scope.names.lookup y = some .local) (hsw : swapsWith (.ListComp elt [⟨tg, iter, ifs, 0⟩] scope pos) (some (.Name y py)) spos.line X.env = pure true)
    (hi : DI X cls W tg iter it) (ok : BlkOk X.N X.env.scope scope own) (hst : ∀ j, j ∈ st → j ∈ own.map (·.2))
    (hg : ∀ (s : Shared) (H : Hp) (C : Addr) (cl : List (Str × Addr)) (fp : List Addr), DG (X.blk s H scope (compEnvC scope cl C X.env) fp) cls tg f st) (ht : ∀ (s : Shared) (H : Hp) (C : Addr) (cl : List (Str × Addr)) (fp : List Addr), DTs (X.blk s H scope (compEnvC scope cl C X.env) fp) cls ifs test)
    (he : ∀ (s : Shared) (H : Hp) (C : Addr) (cl : List (Str × Addr)) (fp : List Addr), DE (X.blk s H scope (compEnvC scope cl C X.env) fp) cls Wno elt o) (hs : ∀ x, foldedSetIterable iter X.env x = pure x) :
    DS X cls W (.Assign [.Name y py] (.ListComp elt [⟨tg, iter, ifs, 0⟩] scope pos) spos) [i] (sSet i (gLc (own.map (·.2)) it f test o.vg)) :=
  (ps_setLc hc hN hy hyl hsw hi ok hg ht (fun s H C cl fp => (he s H C cl fp).own) hs).imp fun D σ H q => by
    have z : tO (Px X cls) W (.val (gLc (own.map (·.2)) it f test o.vg)) σ H fun v H1 => tN (Px X cls) (setS i) [i] v σ H1 D.nx := asg_ok (f := setS i) (show tS (Px X cls) W [i] (sAsg (setS i) (gLc (own.map (·.2)) it f test o.vg)) D σ H from q)
    have z2 : tG (Px X cls) W (gLc (own.map (·.2)) it f test o.vg) σ H fun v H1 => gName i v σ H1 D.nx := by
      refine tO_mono z fun v H1 z => ?_
      obtain ⟨ρ, F, fp, t, A, ρ', s, m, h, k⟩ := z
      unfold setS at h
      split at h
      · rename_i l
        cases h
        refine k _ _ (s.set m l) (fun b j h => ?_) Ag.set
        split at h
        · exact .inr h
        · exact .inl ⟨j, h⟩
      · cases h
    exact tLc_ok hst z2
/-! in short -/
theorem s_set (i : Nat) (hN : X.N.Nodup) (h : DE X cls W e o) (hi : X.N[i]? = some x := by rfl) (hx : L2.Loc X.env.scope x := by first | exact .inl rfl | exact .inr rfl) (hf : X.fn x = true ∨ X.env.scope.names.lookup x = some .local := by first | exact .inl rfl | exact .inr rfl) (hs : swapsWith e (some (.Name x p2)) pos.line X.env = pure false := by rfl) :
    DS X cls W (.Assign [.Name x p2] e pos) [i] (sSet i o.vg) := ds_set hN hi hx hf h hs
theorem t_nm (i : Nat) (hN : X.N.Nodup) (hi : X.N[i]? = some x := by rfl) (hx : L2.Loc X.env.scope x := by first | exact .inl rfl | exact .inr rfl) (hf : X.fn x = true ∨ X.env.scope.names.lookup x = some .local := by first | exact .inl rfl | exact .inr rfl) : DG X cls (.Name x pos) (setS i) [i] := dg_name hN hi hx hf
theorem t_tup (hc : X.calm = true) {n : Nat} {fs : List (T → Rho → Option Rho)} (h : DGs X cls es fs st) : DG X cls (.Tuple es n pos) (setTup fs) st := dg_tup hc h
theorem s_drop (h : DE X cls W e o) (hs : swapsWith e none pos.line X.env = pure false := by rfl) : DS X cls W (.Expr e pos) [] (sDrop o.vg) := ds_drop h hs
theorem s_asg (h : DE X cls W e o) (ht : DG X cls tg f st) (hst : isStarT tg = false := by rfl) (hs : swapsWithSole [tg] e pos.line X.env = pure false := by rfl) (hw : swappedStores [tg] e X.env = pure none := by rfl) : DS X cls W (.Assign [tg] e pos) st (sAsg f o.vg) := ds_asg h ht hst hs hw
theorem s_for (hi : DI X cls W tg iter it) (hg : DG X cls tg f st) (hb : DSs X cls W body st' g) (hp : PassesOwn (model X.prog X.w) X.A X.env X.xe := by exact PassesOwn.never) (hc : X.calm = true := by rfl) (hs : ∀ x, foldedSetIterable iter X.env x = pure x := by intro _; rfl) :
    DS X cls W (.For tg iter body [] pos) (st ++ st') (sFor (st ++ st') it f g) := ds_for hp hc hi hg hb hs
theorem s_while {t : G Bool} (hc : DT X cls W c t) (hb : DSs X cls W body st g) (hp : PassesOwn (model X.prog X.w) X.A X.env X.xe := by exact PassesOwn.never) : DS X cls W (.While c body [] pos) st (sWhile t g) := ds_while hp hc hb
theorem s_forM (i j : Nat) (hN : X.N.Nodup) (hb : DSs X cls W body st g) (hp : PassesOwn (model X.prog X.w) X.A X.env X.xe := by exact PassesOwn.never) (hc : X.calm = true := by rfl) (hx : X.N[i]? = some x := by rfl) (hv : Vis X.env.scope x := by first | exact .inl rfl | exact .inr (.inl rfl) | exact .inr (.inr rfl)) (hd : (x == ("__debug__" : Str)) = false := by decide) (hcd : (x == ("__classdict__" : Str)) = false := by decide)
    (hy : X.N[j]? = some y := by rfl) (hyl : L2.Loc X.env.scope y := by first | exact .inl rfl | exact .inr rfl) (hyf : X.fn y = true ∨ X.env.scope.names.lookup y = some .local := by first | exact .inl rfl | exact .inr rfl) (hs : ∀ z, foldedSetIterable (.Name x p) X.env z = pure z := by intro _; rfl) :
    DS X cls W (.For (.Name y p2) (.Name x p) body [] pos) (j :: st) (sForM i j st g) := ds_forM hp hc hN hx hv hd hcd hy hyl hyf hb hs
theorem s_put (i : Nat) (hr : Room k X.A) (he : DE X cls W e o) (hb : DE X cls W b ob) (hN : X.N[i]? = some x := by rfl) (hv : Vis X.env.scope x := by first | exact .inl rfl | exact .inr (.inl rfl) | exact .inr (.inr rfl)) (hd : (x == ("__debug__" : Str)) = false := by decide) (hcd : (x == ("__classdict__" : Str)) = false := by decide) (hst : isStarT (.Subscript (.Name x p) b p2) = false := by rfl)
    (ha : ∀ v, assign (.Subscript (.Name x p) b p2) X.env v = (do let ov ← holding [v] (eval (.Name x p) X.env); let iv ← holding [v, ov] (eval b X.env); standAt p2; holding [v, ov, iv] (setItem ov iv v); release [v, ov, iv] []) := by intro _; rfl)
    (hs : swapsWithSole [.Subscript (.Name x p) b p2] e pos.line X.env = pure false := by rfl) (hw : swappedStores [.Subscript (.Name x p) b p2] e X.env = pure none := by rfl) : DS X cls W (.Assign [.Subscript (.Name x p) b p2] e pos) [] (sPutA i ob o.vg) := ds_putA (hu_of hr) hN hv hd hcd he hb hst ha hs hw
theorem s_par (i j : Nat) {k1 k2 : Nat} {px py pt pt2 : Pos} (hN : X.N.Nodup) (ha : DAs X cls W [a, b] [oa, ob]) (hc : X.calm = true := by rfl) (hi : X.N[i]? = some x := by rfl) (hj : X.N[j]? = some y := by rfl) (hij : i ≠ j := by decide) (hx : X.env.scope.names.lookup x = some .local := by rfl) (hy : X.env.scope.names.lookup y = some .local := by rfl)
    (hw : swappedStores [.Tuple [.Name x px, .Name y py] k1 pt] (.Tuple [a, b] k2 pt2) X.env = pure (some [x, y]) := by rfl) (hs : swapsWithSole [.Tuple [.Name x px, .Name y py] k1 pt] (.Tuple [a, b] k2 pt2) pos.line X.env = pure false := by rfl) :
    DS X cls W (.Assign [.Tuple [.Name x px, .Name y py] k1 pt] (.Tuple [a, b] k2 pt2) pos) [i, j] (sPar [i, j] [oa.vg, ob.vg]) := ds_par hc hN hi hj hij hx hy ha hw hs
theorem i_seq (h : DE X cls W e o) : DI X cls W tg e (gSeq o) := di_seq h
theorem i_rng1 (hm : X.mg "range" = none) (h : DE X cls W e o) (hs : isStar e = false := by rfl) (hg : Gl X "range" := by rfl) : DI X cls W tg (.Call (.Name "range" p) [e] [] pos) (gOs [o] kRng1) := di_rng1 hg hm h hs
theorem i_rng2 (hm : X.mg "range" = none) (h : DE X cls W a oa) (h' : DE X cls W b ob) (hs : isStar a = false := by rfl) (hs' : isStar b = false := by rfl) (hg : Gl X "range" := by rfl) : DI X cls W tg (.Call (.Name "range" p) [a, b] [] pos) (gOs [oa, ob] kRng2) := di_rng2 hg hm h h' hs hs'
theorem n_lc {own : List (Str × Nat)} (hN : X.N.Nodup) (hi : DI X cls W tg iter it) (ok : BlkOk X.N X.env.scope scope own)
    (hg : ∀ (s : Shared) (H : Hp) (C : Addr) (cl : List (Str × Addr)) (fp : List Addr), DG (X.blk s H scope (compEnvC scope cl C X.env) fp) cls tg f st) (ht : ∀ (s : Shared) (H : Hp) (C : Addr) (cl : List (Str × Addr)) (fp : List Addr), DTs (X.blk s H scope (compEnvC scope cl C X.env) fp) cls ifs test)
    (he : ∀ (s : Shared) (H : Hp) (C : Addr) (cl : List (Str × Addr)) (fp : List Addr), DE (X.blk s H scope (compEnvC scope cl C X.env) fp) cls Wno elt o) (hst : ∀ j, j ∈ st → j ∈ own.map (·.2) := by decide) (hc : X.calm = true := by rfl) (hs : ∀ x, foldedSetIterable iter X.env x = pure x := by intro _; rfl) :
    DE X cls W (.ListComp elt [⟨tg, iter, ifs, 0⟩] scope pos) (.val (gLc (own.map (·.2)) it f test o.vg)) := de_lc hc hN hi ok hst hg ht he hs
theorem s_setLc (i : Nat) {own : List (Str × Nat)} (hN : X.N.Nodup) (hi : DI X cls W tg iter it) (ok : BlkOk X.N X.env.scope scope own)
    (hg : ∀ (s : Shared) (H : Hp) (C : Addr) (cl : List (Str × Addr)) (fp : List Addr), DG (X.blk s H scope (compEnvC scope cl C X.env) fp) cls tg f st) (ht : ∀ (s : Shared) (H : Hp) (C : Addr) (cl : List (Str × Addr)) (fp : List Addr), DTs (X.blk s H scope (compEnvC scope cl C X.env) fp) cls ifs test)
    (he : ∀ (s : Shared) (H : Hp) (C : Addr) (cl : List (Str × Addr)) (fp : List Addr), DE (X.blk s H scope (compEnvC scope cl C X.env) fp) cls Wno elt o) (hst : ∀ j, j ∈ st → j ∈ own.map (·.2) := by decide) (hc : X.calm = true := by rfl) (hy : X.N[i]? = some y := by rfl) (hyl : X.env.scope.names.lookup y = some .local := by rfl)
    (hsw : swapsWith (.ListComp elt [⟨tg, iter, ifs, 0⟩] scope pos) (some (.Name y py)) spos.line X.env = pure true := by rfl) (hs : ∀ x, foldedSetIterable iter X.env x = pure x := by intro _; rfl) :
    DS X cls W (.Assign [.Name y py] (.ListComp elt [⟨tg, iter, ifs, 0⟩] scope pos) spos) [i] (sSet i (gLc (own.map (·.2)) it f test o.vg)) := ds_setLc hc hN hy hyl hsw hi ok hst hg ht he hs
theorem n_ix (hr : Room k X.A) (ha : DE X cls W a oa) (hb : DE X cls W b ob) (hs : isSlice b = false := by rfl) : DE X cls W (.Subscript a b pos) (oIx kIxA oa ob) := de_ixA (hu_of hr) ha hb hs
theorem n_isi (cl : Ty) (hm : X.mg "isinstance" = none) (hmy : X.mg y = none) (ha : DE X cls W a oa) (hs : isStar a = false := by rfl) (hg : Gl X "isinstance" := by rfl) (hgy : Gl X y := by rfl) (hvy : bootBuiltins y = some (.type cl.nm) := by decide +kernel) (hny : y ≠ "__name__" := by decide) (hdy : (y == ("__debug__" : Str)) = false := by decide) :
    DE X cls W (.Call (.Name "isinstance" p) [a, .Name y p3] [] pos) (.val (gP1 (kIsi cl) oa)) := de_isi cl hg hm hgy hmy hvy hny hdy hs ha
theorem n_lenSet (hm : X.mg "len" = none) (hm2 : X.mg "set" = none) {q : Pos} (ha : DE X cls W a o) (hs : isStar a = false := by rfl) (hc : X.calm = true := by rfl) (hg : Gl X "len" := by rfl) (hg2 : Gl X "set" := by rfl) : DE X cls W (.Call (.Name "len" p) [.Call (.Name "set" p2) [a] [] q] [] pos) (.val (gOs [o] (kP (kk1 kLenSet)))) := de_lenSet hc hg hm hg2 hm2 ha hs
theorem m_app (i : Nat) {apos : Pos} (he : DE X cls W e o) (hs : isStar e = false := by rfl) (hN : X.N[i]? = some x := by rfl) (hv : Vis X.env.scope x := by first | exact .inl rfl | exact .inr (.inl rfl) | exact .inr (.inr rfl)) (hd : (x == ("__debug__" : Str)) = false := by decide) (hcd : (x == ("__classdict__" : Str)) = false := by decide)
    (hb : attributeBase (.Name x p) "append" X.env (eval (.Name x p) X.env) = eval (.Name x p) X.env := by rfl) (hl : (apos.endLine == pos.line) = true := by rfl) : DE X cls W (.Call (.Attribute (.Name x p) "append" apos) [e] [] pos) (.val (gMut i (([o].map Opd.vg).map .val) mApp)) := de_mutO PySem.F.slot_list_append PySem.F.type_list_append mt_append o_app hN hv hd hcd (.cons hs he .nil) hb hl rfl
theorem m_ext (i : Nat) {apos : Pos} (he : DE X cls W e o) (hs : isStar e = false := by rfl) (hN : X.N[i]? = some x := by rfl) (hv : Vis X.env.scope x := by first | exact .inl rfl | exact .inr (.inl rfl) | exact .inr (.inr rfl)) (hd : (x == ("__debug__" : Str)) = false := by decide) (hcd : (x == ("__classdict__" : Str)) = false := by decide)
    (hb : attributeBase (.Name x p) "extend" X.env (eval (.Name x p) X.env) = eval (.Name x p) X.env := by rfl) (hl : (apos.endLine == pos.line) = true := by rfl) : DE X cls W (.Call (.Attribute (.Name x p) "extend" apos) [e] [] pos) (.val (gMut i [o] mExt)) := de_mutP PySem.F.slot_list_extend PySem.F.type_list_extend mt_extend p_ext hN hv hd hcd (.cons hs he .nil) hb hl rfl
/-! calls of defs that let nothing out -/
structure Cl (P : Program) (w : World) (K : PySem.W.Frag) (mg : Str → Option Value) (base : Heap) (k : Nat) (x : Str) (sp : Sp) : Prop where
  ex : ∃ (f : Addr) (fd : FuncData) (ps : List Str), FnOk P w K mg base CX0 k f fd ps sp ∧ mg x = some (.ref f) ∧ PySem.W.keepIn K (.ref f) = true ∧ Binds K fd ps []
theorem n_user {fn : FnT} {io : List Bool} (m : Cl X.prog X.w X.K X.mg X.base k x (spT (Px X cls) io.length fn)) (hr : Room j X.A) (h : DAs X cls W (e :: es) os) (hk : k ≤ j := by decide) (hg : Gl X x := by rfl) (hdb : (x == ("__debug__" : Str)) = false := by decide) :
    DE X cls W (.Call (.Name x p) (e :: es) [] pos) (.val (gUser fn io (os.map Opd.lt))) := by
  obtain ⟨f, fd, ps, F, hm, kp, b⟩ := m.ex
  exact de_user F hr hk hg hm kp b (fun _ _ _ _ _ _ _ z => z.elim) hdb h
end
end Hu
set_option Elab.async false
set_option linter.all false
set_option maxRecDepth 100000
/-! HuY: the end of a law. -/
namespace Hu
open PySem L2
/-- what the law's def promises: of a script it tells True -/
def spLaw (K : PySem.W.Frag) : Sp := fun vs H Q _ => ∃ (a : Addr) (ns : List Int), vs = [.ref a] ∧ SqL K H a (ns.map V.int) ∧ ns.length ≤ 63 ∧ (∀ z ∈ ns, Builtin.Int.intBits z ≤ 1048576) ∧ ∀ H', Q (.bl true) H'
def Keeps (fn : FnT) : Prop := ∀ ns : List Int, ns.length ≤ 63 → (∀ z ∈ ns, Builtin.Int.intBits z ≤ 1048576) → ∃ back, fn [.scr ns] = .ret (.d (.bool true)) back
theorem law_sp {P : Program} {w : World} {K : PySem.W.Frag} {mg : Str → Option Value} {base : Heap} {CX : CXT} {k : Nat} {f : Addr} {fd : FuncData} {ps : List Str} {cls : Str → Addr} {fn : FnT} (F : FnOk P w K mg base CX k f fd ps (spT ⟨K, cls⟩ 1 fn)) (hk : Keeps fn) : FnOk P w K mg base CX k f fd ps (spLaw K) :=
  F.imp fun vs H Q E h => by
    obtain ⟨a, ns, rfl, hS, hl, hb, q⟩ := h
    obtain ⟨back, e⟩ := hk ns hl hb
    refine ⟨rfl, H, fun _ => [], [.scr ns], ⟨rfl, fun i t h => ?_, fun i j n b z => by simp at z, fun i b z => by simp at z, fun i b z => by simp at z, Same.refl H⟩, ?_⟩
    · cases i with
      | zero => simp at h; subst h; exact ⟨.ref a, rfl, .scr hS⟩
      | succ i => simp at h
    · rw [e]
      intro v F' H' fp' A s m x
      rw [m.r.bl]
      exact q H'
theorem walk {l : PySem.W.OpenLaw} {k : Nat} {q : Program} {loose : List Str} {XP : (Str → Option Value) → Heap → Prop} {YP : World → Heap → Prop} {d : DefRec} {K : Params → PySem.W.Frag} {x : Str} (hn : l.most = some 63) (hdf : d.params.defaults = []) (hr : Room k callerA) (hY : ∀ (w : World) (h : Heap), YP w h → (K w.params).In h) (F : ∀ (w : World) (mg : Str → Option Value) (fa : Addr) (h : Heap), (K w.params).In h → h.Ns mainGlobals mg → mg d.name = some (.ref fa) → ∃ fd : FuncData, (∀ (s : Shared) (u : Value), BindsTo s fd ⟨[u], []⟩ [(x, u)]) ∧ ∀ base : Heap, (K w.params).In base → base.Ns mainGlobals mg → FnOk l.prog w (K w.params) mg base CX0 k fa fd [x] (spLaw (K w.params))) : PySem.W.WalkO q loose XP YP l.row.toRowW d [] (fun f vs => PySem.call f vs) :=
  L2.walk_ofB (n := 63) (k := k) (x := x) (CX := fun _ => CX0) (sp := fun w => spLaw (K w.params)) hn (by decide) hdf hr hY F (fun _ _ a ns hl hb _ hS => ⟨a, ns, rfl, hS, hl, hb, fun _ => rfl⟩) fun _ _ _ _ _ z => z
end Hu
set_option Elab.async false
set_option linter.all false
set_option maxRecDepth 100000
/-! HuZ: a list comprehension over a name whose items are owned: each is moved to the target and back. -/
namespace Hu
open PySem L2
def lcM (j : Nat) (vs : List Nat) (test : G Bool) (elt : G T) : List T → List T → List T → Rho → Option (List T × List T × Rho)
  | [], dn, acc, ρ => some (dn, acc, ρ)
  | t :: ts, dn, acc, ρ => match setS j t ρ with
    | none => none
    | some ρ1 => match test ρ1 with
      | .ok true ρ2 => match elt ρ2 with
        | .ok y ρ3 => match getS ρ3 j with
          | some t' => if acc.length < sizeLine then lcM j vs test elt ts (dn ++ [t']) (acc ++ [y]) (wipeR ρ3 vs) else none
          | none => none
        | _ => none
      | .ok false ρ2 => match getS ρ2 j with
        | some t' => lcM j vs test elt ts (dn ++ [t']) acc (wipeR ρ2 vs)
        | none => none
      | _ => none
def gLcM (i j : Nat) (vs : List Nat) (test : G Bool) (elt : G T) : G T := fun ρ => match getS ρ i with
  | some (.lst ts) => if (vs.contains i || !(vs.contains j)) = true then .bad else match lcM j vs test elt ts [] [] (wipeR (ρ.set i none) vs) with
    | some (dn, us, ρ2) => match setS i (.lst dn) (backR (ρ.set i none) ρ2 vs) with
      | some ρ3 => .ok (.lst us) ρ3
      | none => .bad
    | none => .bad
  | _ => .bad
section
variable {K : Par} {F H : Hp} {σ : St} {ρ : Rho} {fp : Nat → List Addr}
def offF (vs : List Nat) (fp : Nat → List Addr) : Nat → List Addr := fun c => if c ∈ vs then [] else fp c
theorem offF_mem {vs : List Nat} {c : Nat} {b : Addr} (h : b ∈ offF vs fp c) : b ∈ fp c ∧ c ∉ vs := by
  unfold offF at h
  split at h
  · simp at h
  · exact ⟨h, by assumption⟩
theorem Sim.wiped0 (s : Sim K F H σ ρ fp) (vs : List Nat) : Sim K F H (wipe σ vs) (wipeR ρ vs) (offF vs fp) :=
  s.ghost (σ0 := wipe σ vs) (ρ0 := wipeR ρ vs) (vs := vs) (wipe_length σ vs) (wipeR_len ρ vs) (fun j hj => by rw [wipe_get, if_neg hj]) fun j t h => by
    obtain ⟨h1, h2⟩ := wipeR_get ρ j t h
    exact .inl ⟨h2, h1⟩
theorem put_back {a : Addr} {va vb : List V} {v : V} {dn rem : List T} {t' : T} {A1 A3 A4 : List Addr} (hH : H a = some (.lst (va ++ v :: vb))) (ra : RA K F H va dn A1) (r' : R K F H v t' A3) (r4 : RA K F H vb rem A4) (n1 : a ∉ A1) (n3 : a ∉ A3) (n4 : a ∉ A4) (d13 : ∀ b, b ∈ A1 → b ∉ A3) (d14 : ∀ b, b ∈ A1 → b ∉ A4) (d34 : ∀ b, b ∈ A3 → b ∉ A4)
    (dj : ∀ b, (b = a ∨ b ∈ A1 ∨ b ∈ A3 ∨ b ∈ A4) → (∀ c, b ∉ fp c) ∧ F b = none) : Tmp K F H fp (.ref a) (.lst ((dn ++ [t']) ++ rem)) (a :: (A1 ++ (A3 ++ A4))) := by
  have mem : ∀ b, b ∈ a :: (A1 ++ (A3 ++ A4)) → (b = a ∨ b ∈ A1 ∨ b ∈ A3 ∨ b ∈ A4) := fun b z => by simpa only [List.mem_cons, List.mem_append] using z
  refine ⟨?_, fun b z => (dj b (mem b z)).1, fun b z => (dj b (mem b z)).2⟩
  have e1 : (dn ++ [t']) ++ rem = dn ++ t' :: rem := by simp
  rw [e1]
  refine .lst hH (RA.join ra (.cons r' r4 d34) fun b z w => ?_) fun z => ?_
  · rcases List.mem_append.mp w with w | w
    · exact d13 b z w
    · exact d14 b z w
  · simp only [List.mem_append] at z
    rcases z with z | z | z
    · exact n1 z
    · exact n3 z
    · exact n4 z
end
theorem Ext.cells2 {F H F0 H0 : Hp} {fp fp' fp0 : Nat → List Addr} {A : List Addr} (x : Ext F0 H0 fp0 F H fp A) (h : ∀ b i, b ∈ fp' i → (∃ j, b ∈ fp0 j) ∨ H0 b = none) : Ext F0 H0 fp0 F H fp' A :=
  ⟨x.keep, x.fsub, x.fnew, fun a z => by
    rcases z with z | ⟨i, z⟩
    · exact x.own a (.inl z)
    · exact h a i z⟩
theorem Tmp.off {K : Par} {F H : Hp} {fp : Nat → List Addr} {v : V} {t : T} {A : List Addr} (m : Tmp K F H fp v t A) (vs : List Nat) : Tmp K F H (offF vs fp) v t A := ⟨m.r, fun b z c w => m.dj b z c (offF_mem w).1, m.ff⟩
theorem lcM_ok {K : Par} {F0 H0 : Hp} {fp0 : Nat → List Addr} {σ : St} {j : Nat} {vs : List Nat} {test : G Bool} {elt : G T} (hj : j ∈ vs) {F1 H1 : Hp} {ρ1 : Rho} {fp1 : Nat → List Addr} (s1 : Sim K F1 H1 σ ρ1 fp1) {B0 : List Addr} (x1 : Ext F0 H0 fp0 F1 H1 fp1 B0) {a : Addr} {ts : List T} (m1 : Tmp K F1 H1 fp1 (.ref a) (.lst ts) B0)
    {dnE usE : List T} {ρe : Rho} (o : lcM j vs test elt ts [] [] (wipeR ρ1 vs) = some (dnE, usE, ρe)) {Q : VK} {D : Addr} (hD : H1 D = none)
    (q : ∀ F H fp B BD, Sim K F H (wipe σ vs) ρe fp → Ext F0 H0 fp0 F H fp (B ++ BD) → Tmp K F H fp (.ref a) (.lst dnE) B → Tmp K F H fp (.ref D) (.lst usE) BD → (∀ b, b ∈ B → b ∉ BD) → Same F1 F → Q (.ref D) H) :
    ∃ Wd : Nat → Nat → Hp → Prop, (∃ m, Wd 0 m (upd H1 D (.lst []))) ∧ ∀ i m H, Wd i m H → ((Itl K.K a).stop i H ∧ Q (.ref D) H) ∨ ((Itl K.K a).go i H ∧ ∃ Nx : Hp → Prop, (∀ H', Nx H' → ∃ m', m' < m ∧ Wd (i + 1) m' H') ∧
      ∀ x H', (Itl K.K a).yld i H x H' → gName j x (wipe σ vs) H' fun σ2 H2 => wipe σ2 vs = wipe σ vs ∧ tT K Wno test σ2 H2 fun b H3 => if b = true then tG K Wno elt σ2 H3 fun y H4 => ∃ acc, H4 D = some (.lst acc) ∧ acc.length < sizeLine ∧ Nx (upd H4 D (.lst (acc ++ [y]))) else Nx H3) := by
  have hD0 : (∃ i, D ∈ fp0 i) ∨ H0 D = none := by
    cases c : H0 D with
    | none => exact .inr rfl
    | some u =>
      by_cases e : ∃ i, D ∈ fp0 i
      · exact .inl e
      · have := x1.keep D u c fun i z => e ⟨i, z⟩
        rw [hD] at this; cases this
  let I : Nat → Hp → Prop := fun k H => ∃ ρ F fp dn rem us B BD, dn.length = k ∧ k + rem.length = ts.length ∧ Sim K F H (wipe σ vs) ρ fp ∧ Ext F0 H0 fp0 F H fp (B ++ BD) ∧ Tmp K F H fp (.ref a) (.lst (dn ++ rem)) B ∧ Tmp K F H fp (.ref D) (.lst us) BD ∧ (∀ b, b ∈ B → b ∉ BD) ∧ Same F1 F ∧ D ∈ BD ∧ lcM j vs test elt rem dn us ρ = some (dnE, usE, ρe)
  refine ⟨fun k m H => m = ts.length - k ∧ I k H, ⟨ts.length, rfl, wipeR ρ1 vs, F1, offF vs fp1, [], ts, [], B0, [D], rfl, by simp, (s1.laid hD).wiped0 vs, ?_, (Tmp.off ⟨m1.r.laid hD, m1.dj, m1.ff⟩ vs), Tmp.off ⟨.lst upd_same .nil (by simp), fun b z c w => ?_, fun b z => ?_⟩ vs, fun b z w => ?_, Same.refl F1, by simp, o⟩, ?_⟩
  · have x2 := x1.trans (Ext.laid (F := F1) (fp := fp1) (o := .lst []) hD (A := [D]) (by simpa using hD))
    refine (x2.more fun b z => ?_).less fun b c z => ⟨c, (offF_mem z).1⟩
    rcases List.mem_append.mp z with z | z
    · exact .inr (x1.own b (.inl z))
    · exact .inl z
  · have := List.mem_singleton.mp z
    subst this
    exact live_ne (s1.mt c) hD w
  · have := List.mem_singleton.mp z
    subst this
    exact s1.sub.free hD
  · have := List.mem_singleton.mp w
    subst this
    exact live_ne m1.r.live hD z
  rintro k m H ⟨rfl, ρ, F, fp, dn, rem, us, B, BD, hk, hr, s, x, mB, mD, nb, hF, hDB, o⟩
  obtain ⟨vsL, hH, hl⟩ : ∃ vsL, H a = some (.lst vsL) ∧ vsL.length = (dn ++ rem).length := by
    obtain ⟨r, _, _⟩ := mB
    cases r with
    | lst h1 h2 _ => exact ⟨_, h1, h2.length⟩
  cases rem with
  | nil =>
    left
    simp only [lcM, Option.some.injEq, Prod.mk.injEq] at o
    obtain ⟨rfl, rfl, rfl⟩ := o
    rw [List.append_nil] at mB hl
    exact ⟨⟨vsL, .of hH, by omega⟩, q F H fp B BD s x mB mD nb hF⟩
  | cons t rem =>
    right
    have lt : k < vsL.length := by rw [hl]; simp; omega
    refine ⟨⟨vsL, vsL[k], .of hH, by simp [lt]⟩, I (k + 1), fun H' h => ⟨ts.length - (k + 1), by simp at hr; omega, rfl, h⟩, fun v H' y => ?_⟩
    obtain ⟨e0, y⟩ := y
    subst e0
    have ev := y vsL (.of hH)
    obtain ⟨r, dj, ff⟩ := mB
    cases r with
    | @lst _ vs2 _ A h1 h2 na =>
    rw [hH] at h1
    cases h1
    obtain ⟨va, vb, A1, A2, rfl, ra, rb, rfl, d12⟩ := RA.split h2
    cases rb with
    | @cons w vb _ _ A3 A4 r3 r4 n34 =>
    have la : va.length = k := by rw [ra.length]; exact hk
    have evw : v = w := by
      rw [List.getElem?_append_right (by omega)] at ev
      simp [la] at ev
      exact ev.symm
    subst evw
    simp only [lcM] at o
    cases c1 : setS j t ρ with
    | none => rw [c1] at o; cases o
    | some ρf =>
    rw [c1] at o
    unfold setS at c1
    split at c1
    · rename_i lj
      cases c1
      have s2 := s.set (i := j) ⟨r3, fun b z => dj b (by simp [z]), fun b z => ff b (by simp [z])⟩ lj
      have cc2 : ∀ b c, b ∈ (fun c => if c = j then A3 else fp c) c → (∃ c, b ∈ fp c) ∨ b ∈ A3 := fun b c z => by
        simp only at z
        split at z
        · exact .inr z
        · exact .inl ⟨c, z⟩
      have hvj : ((wipe σ vs).set j (some v))[j]? = some (some v) := List.getElem?_set_self (by rw [s.len]; exact lj)
      have weq : wipe ((wipe σ vs).set j (some v)) vs = wipe σ vs := wipe_eq (by simp [wipe_length]) fun c hc => by
        rw [List.getElem?_set_ne (fun (e : j = c) => hc (e ▸ hj)), wipe_get, if_neg hc]
      generalize hσ2 : (wipe σ vs).set j (some v) = σ2 at s2 hvj weq
      generalize hfp2 : (fun c => if c = j then A3 else fp c) = fp2 at s2 cc2
      generalize hρf : ρ.set j (some t) = ρf at s2 o
      simp only at o
      show wipe ((wipe σ vs).set j (some v)) vs = wipe σ vs ∧ tT K Wno test ((wipe σ vs).set j (some v)) H' _
      rw [hσ2]
      refine ⟨weq, ?_⟩
      -- what stands beside the slots
      have inB : ∀ b, (b = a ∨ b ∈ A1 ∨ b ∈ A4) → b ∈ a :: (A1 ++ (A3 ++ A4)) := fun b z => by
        simp only [List.mem_cons, List.mem_append]
        rcases z with z | z | z
        · exact .inl z
        · exact .inr (.inl z)
        · exact .inr (.inr (.inr z))
      have no3 : ∀ b, (b = a ∨ b ∈ A1 ∨ b ∈ A4) → b ∉ A3 := fun b z w => by
        rcases z with rfl | z | z
        · exact na (by simp [w])
        · exact d12 b z (by simp [w])
        · exact n34 b w z
      have side : ∀ b, b ∈ (a :: (A1 ++ A4)) ++ BD → (b = a ∨ b ∈ A1 ∨ b ∈ A4) ∨ b ∈ BD := fun b z => by
        simpa only [List.mem_append, List.mem_cons, List.cons_append, or_assoc] using z
      have live : Live H' ((a :: (A1 ++ A4)) ++ BD) := fun b z => by
        rcases side b z with (rfl | z | z) | z
        · exact ⟨_, hH, rfl⟩
        · exact ra.live b z
        · exact r4.live b z
        · exact mD.r.live b z
      have bd : ∀ b, b ∈ (a :: (A1 ++ A4)) ++ BD → ∀ c, b ∉ fp2 c := fun b z c w => by
        rcases side b z with z | z
        · rcases cc2 b c w with ⟨e, w⟩ | w
          · exact dj b (inB b z) e w
          · exact no3 b z w
        · rcases cc2 b c w with ⟨e, w⟩ | w
          · exact mD.dj b z e w
          · exact nb b (by simp [w]) z
      have bf : ∀ b, b ∈ (a :: (A1 ++ A4)) ++ BD → F b = none := fun b z => by
        rcases side b z with z | z
        · exact ff b (inB b z)
        · exact mD.ff b z
      have x02 : Ext F0 H0 fp0 F H' fp2 ((a :: (A1 ++ (A3 ++ A4))) ++ BD) := ⟨x.keep, x.fsub, x.fnew, fun b z => by
        rcases z with z | ⟨c, z⟩
        · exact x.own b (.inl z)
        · rcases cc2 b c z with z | z
          · exact x.own b (.inr z)
          · exact x.own b (.inl (by simp [z]))⟩
      have ia : a ∈ (a :: (A1 ++ A4)) ++ BD := by simp
      have i1 : ∀ b, b ∈ A1 → b ∈ (a :: (A1 ++ A4)) ++ BD := fun b z => by simp [z]
      have i4 : ∀ b, b ∈ A4 → b ∈ (a :: (A1 ++ A4)) ++ BD := fun b z => by simp [z]
      have iD : ∀ b, b ∈ BD → b ∈ (a :: (A1 ++ A4)) ++ BD := fun b z => by simp [z]
      have n1 : a ∉ A1 := fun z => na (by simp [z])
      have n4 : a ∉ A4 := fun z => na (by simp [z])
      have d14 : ∀ b, b ∈ A1 → b ∉ A4 := fun b z w => d12 b z (by simp [w])
      have nbD : ∀ b, (b = a ∨ b ∈ A1 ∨ b ∈ A4) → b ∉ BD := fun b z => nb b (inB b z)
      -- the state behind a turn, at any later state of the slots
      have back : ∀ {F3 H3 : Hp} {ρ3 : Rho} {fp3 : Nat → List Addr} {C : List Addr} {t' : T}, Sim K F3 H3 σ2 ρ3 fp3 → Ext F H' fp2 F3 H3 fp3 C → getS ρ3 j = some t' →
          Sim K F3 H3 (wipe σ vs) (wipeR ρ3 vs) (offF vs fp3) ∧ Tmp K F3 H3 (offF vs fp3) (.ref a) (.lst ((dn ++ [t']) ++ rem)) (a :: (A1 ++ (fp3 j ++ A4))) ∧ Tmp K F3 H3 (offF vs fp3) (.ref D) (.lst us) BD ∧ (∀ b, b ∈ a :: (A1 ++ (fp3 j ++ A4)) → b ∉ BD) ∧ Ext F0 H0 fp0 F3 H3 (offF vs fp3) ((a :: (A1 ++ (fp3 j ++ A4))) ++ BD) ∧
            (∀ b, b ∈ (a :: (A1 ++ A4)) ++ BD → (∃ u, H3 b = some u) ∧ ∀ c, b ∉ fp3 c) := fun {F3 H3 ρ3 fp3 C t'} s3 x3 ht => by
        obtain ⟨k1, k2, k3⟩ := cells_on s2 x3 s3 live bd bf
        obtain ⟨v', hv', r'⟩ := s3.sl j t' (getS_some ht)
        rw [hvj] at hv'
        cases hv'
        have tu := s2.tups x3
        have m3 := put_back (fp := offF vs fp3) ((k1 a ia).trans hH) (ra.frame x3.fsub tu fun b z => k1 b (i1 b z)) r' (r4.frame x3.fsub tu fun b z => k1 b (i4 b z)) n1 (k2 a ia j) n4 (fun b z => k2 b (i1 b z) j) d14 (fun b z w => k2 b (i4 b w) j z) fun b z => ⟨fun c w => by
          obtain ⟨w, hc⟩ := offF_mem w
          rcases z with rfl | z | z | z
          · exact k2 _ ia c w
          · exact k2 b (i1 b z) c w
          · exact s3.dj j c (fun e => hc (e ▸ hj)) b z w
          · exact k2 b (i4 b z) c w, by
          rcases z with rfl | z | z | z
          · exact k3 _ ia
          · exact k3 b (i1 b z)
          · exact s3.ff j b z
          · exact k3 b (i4 b z)⟩
        refine ⟨weq ▸ s3.wiped0 vs, m3, ⟨mD.r.frame x3.fsub tu fun b z => k1 b (iD b z), fun b z c w => k2 b (iD b z) c (offF_mem w).1, fun b z => k3 b (iD b z)⟩, fun b z => ?_, ?_, fun b z => ?_⟩
        · simp only [List.mem_cons, List.mem_append] at z
          rcases z with z | z | z | z
          · exact nbD b (.inl z)
          · exact nbD b (.inr (.inl z))
          · exact fun w => k2 b (iD b w) j z
          · exact nbD b (.inr (.inr z))
        · refine ((x02.trans x3).more fun b z => ?_).less fun b c z => ⟨c, (offF_mem z).1⟩
          simp only [List.mem_cons, List.mem_append] at z
          rcases z with (z | z | z | z) | z
          · exact .inr (x02.own b (.inl (by simp [z])))
          · exact .inr (x02.own b (.inl (by simp [z])))
          · exact .inr ((x02.trans x3).own b (.inr ⟨j, z⟩))
          · exact .inr (x02.own b (.inl (by simp [z])))
          · exact .inr (x02.own b (.inl (by simp [z])))
        · obtain ⟨u, e, _⟩ := live b z
          exact ⟨⟨u, by rw [k1 b z]; exact e⟩, k2 b z⟩
      cases c4 : test ρf with
      | bad => rw [c4] at o; cases o
      | ex _ _ _ => rw [c4] at o; cases o
      | ok b ρ2 =>
      rw [c4] at o
      refine ⟨ρf, F, fp2, s2, ?_⟩
      rw [c4]
      intro F3 H3 fp3 s3 x3
      cases b with
      | false =>
        simp only at o
        cases c5 : getS ρ2 j with
        | none => rw [c5] at o; cases o
        | some t' =>
          rw [c5] at o
          obtain ⟨w1, w2, w3, w4, w5, _⟩ := back s3 x3 c5
          exact iteF ⟨wipeR ρ2 vs, F3, offF vs fp3, dn ++ [t'], rem, us, _, BD, by simp [hk], by simp at hr; omega, w1, w5, w2, w3, w4, fun b o h => x3.fsub b o (hF b o h), hDB, o⟩
      | true =>
        simp only at o
        refine iteT ⟨ρ2, F3, fp3, s3, ?_⟩
        cases c5 : elt ρ2 with
        | bad => rw [c5] at o; cases o
        | ex _ _ _ => rw [c5] at o; cases o
        | ok ty ρ3 =>
        rw [c5] at o
        simp only at o
        intro yv F5 H5 fp5 C s5 my x5
        cases c6 : getS ρ3 j with
        | none => rw [c6] at o; cases o
        | some t' =>
        rw [c6] at o
        simp only at o
        split at o
        · rename_i hz
          obtain ⟨w1, w2, w3, w4, w5, _⟩ := back s5 (x3.trans x5) c6
          have nbC : ∀ b, b ∈ (a :: (A1 ++ A4)) ++ BD → b ∉ C := fun b z w => by
            obtain ⟨_, _, _, _, _, w6⟩ : True ∧ True ∧ True ∧ True ∧ True ∧ (∀ b, b ∈ (a :: (A1 ++ A4)) ++ BD → (∃ u, H3 b = some u) ∧ ∀ c, b ∉ fp3 c) := ⟨trivial, trivial, trivial, trivial, trivial, fun b z => by
              obtain ⟨k1, k2, k3⟩ := cells_on s2 x3 s3 live bd bf
              obtain ⟨u, e, _⟩ := live b z
              exact ⟨⟨u, by rw [k1 b z]; exact e⟩, k2 b z⟩⟩
            obtain ⟨⟨u, e⟩, n⟩ := w6 b z
            rcases x5.own b (.inl w) with ⟨c, y⟩ | y
            · exact n c y
            · rw [e] at y; cases y
          obtain ⟨acc, h1, h2, h3, s6, m6⟩ := Tmp.push w1 w3 (my.off vs) fun b z => nbC b (iD b z)
          have nD : D ∉ a :: (A1 ++ (fp5 j ++ A4)) := fun z => w4 D z h3
          have tu : TupSub H5 (upd H5 D (.lst (acc ++ [yv]))) := fun b xs h => by
            by_cases c : b = D
            · subst c; rw [h1] at h; cases h
            · rw [upd_ne c]; exact h
          have m7 : Tmp K F5 (upd H5 D (.lst (acc ++ [yv]))) (offF vs fp5) (.ref a) (.lst ((dn ++ [t']) ++ rem)) (a :: (A1 ++ (fp5 j ++ A4))) := ⟨w2.r.frame (Same.refl F5) tu fun b z => upd_ne fun e => nD (e ▸ z), w2.dj, w2.ff⟩
          refine ⟨acc, h1, by rw [h2]; exact hz, wipeR ρ3 vs, F5, offF vs fp5, dn ++ [t'], rem, us ++ [ty], _, BD ++ C, by simp [hk], by simp at hr; omega, s6, ?_, m7, m6, fun b z w => ?_, fun b o h => x5.fsub b o (x3.fsub b o (hF b o h)), List.mem_append_left _ hDB, o⟩
          · refine (w5.poke hD0).more fun b z => ?_
            rcases List.mem_append.mp z with z | z
            · exact .inl (List.mem_append_left _ z)
            · rcases List.mem_append.mp z with z | z
              · exact .inl (List.mem_append_right _ z)
              · exact .inr (((x02.trans x3).trans x5).own b (.inl z))
          · rcases List.mem_append.mp w with w | w
            · exact w4 b z w
            · simp only [List.mem_cons, List.mem_append] at z
              rcases z with rfl | z | z | z
              · exact nbC _ ia w
              · exact nbC b (i1 b z) w
              · exact my.dj b w j z
              · exact nbC b (i4 b z) w
        · cases o
    · cases c1
section
variable {X : Cx} {cls : Str → Addr} {W : XW} {elt : Expr} {ifs : List Expr} {pos p p2 : Pos} {o : Opd} {scope : Scope} {x y : Str} {i j : Nat} {test : G Bool}
theorem tLcM_ok {K : Par} {vs : List Nat} {eg : G T} {σ : St} {H : Hp} {Q : VK} (q : tG K W (gLcM i j vs test eg) σ H Q) : tLc (iSq K.K (tVar i)) (gName j) (tT K Wno test) (tG K Wno eg) vs σ H Q := by
  obtain ⟨ρ, F, fp, s, q⟩ := q
  unfold gLcM at q
  cases c0 : getS ρ i with
  | none => rw [c0] at q; exact q.elim
  | some t0 =>
  rw [c0] at q
  cases t0 with
  | lst ts =>
    simp only at q
    split at q
    · exact q.elim
    · rename_i hcond
      simp only [Bool.or_eq_true, Bool.not_eq_true', List.contains_eq_mem, decide_eq_true_eq, decide_eq_false_iff_not, not_or, Decidable.not_not] at hcond
      obtain ⟨hi, hj⟩ := hcond
      obtain ⟨v0, hv0, r0⟩ := s.sl i _ (getS_some c0)
      have s1 := s.drop i
      have x1 := Ext.drop F H fp i
      have m1 : Tmp K F H (fun k => if k = i then [] else fp k) v0 (.lst ts) (fp i) := ⟨r0, fun a ha k hk => by
        split at hk
        · simp at hk
        · exact s.dj k i (by assumption) a hk ha, s.ff i⟩
      obtain ⟨a, vl, rfl, hH⟩ : ∃ a vl, v0 = .ref a ∧ H a = some (.lst vl) := by
        generalize fp i = A0 at r0
        cases r0 with
        | lst h1 _ _ => exact ⟨_, _, rfl, h1⟩
      refine ⟨.ref a, hv0, a, rfl, .inl ⟨⟨vl, .of hH⟩, fun D hD => ?_⟩⟩
      cases c1 : lcM j vs test eg ts [] [] (wipeR (ρ.set i none) vs) with
      | none => rw [c1] at q; exact q.elim
      | some r =>
      obtain ⟨dn, us, ρe⟩ := r
      rw [c1] at q
      simp only at q
      cases c2 : setS i (.lst dn) (backR (ρ.set i none) ρe vs) with
      | none => rw [c2] at q; exact q.elim
      | some ρ3 =>
      rw [c2] at q
      refine lcM_ok hj s1 x1 m1 c1 hD fun F' H' fp' B BD s' x' mB mD nb hF => ?_
      unfold setS at c2
      split at c2
      · rename_i l
        cases c2
        have s5 := s'.ghost (σ0 := σ) (ρ0 := backR (ρ.set i none) ρe vs) (vs := vs) (wipe_length σ vs).symm (by simp [backR]) (fun k hk => by rw [wipe_get, if_neg hk]) fun k t h => by
          rcases backR_get h with h | ⟨hk, x9, rfl, h9⟩
          · exact .inl h
          · obtain ⟨v, e, r⟩ := s1.sl k _ h9
            exact .inr ⟨hk, x9, v, rfl, e, r.fz.mono hF⟩
        have mB' := mB.off vs
        have mD' := mD.off vs
        have s6 := s5.set (i := i) mB' l
        rw [set_same hv0] at s6
        refine q (.ref D) F' H' _ BD s6 ⟨mD.r, fun b z c w => ?_, mD.ff⟩ ((x'.more fun b z => .inl (List.mem_append_right _ z)).cells2 fun b c w => ?_)
        · split at w
          · exact nb b w z
          · exact mD'.dj b z c w
        · split at w
          · exact x'.own b (.inl (List.mem_append_left _ w))
          · exact x'.own b (.inr ⟨c, (offF_mem (fp := fp') (vs := vs) w).1⟩)
      · cases c2
  | _ => exact q.elim
where
  dummy : True := trivial
theorem n_lcM (i j : Nat) (hN : X.N.Nodup) (ok : BlkOk X.N X.env.scope scope [(y, j)])
    (ht : ∀ (s : Shared) (H : Hp) (C : Addr) (cl : List (Str × Addr)) (fp : List Addr), DTs (X.blk s H scope (compEnvC scope cl C X.env) fp) cls ifs test) (he : ∀ (s : Shared) (H : Hp) (C : Addr) (cl : List (Str × Addr)) (fp : List Addr), DE (X.blk s H scope (compEnvC scope cl C X.env) fp) cls Wno elt o)
    (hc : X.calm = true := by rfl) (hx : X.N[i]? = some x := by rfl) (hv : Vis X.env.scope x := by first | exact .inl rfl | exact .inr (.inl rfl) | exact .inr (.inr rfl)) (hd : (x == ("__debug__" : Str)) = false := by decide) (hcd : (x == ("__classdict__" : Str)) = false := by decide)
    (hg : ∀ (s : Shared) (H : Hp) (C : Addr) (cl : List (Str × Addr)) (fp : List Addr), PG (X.blk s H scope (compEnvC scope cl C X.env) fp) (.Name y p2) (gName j) := by exact fun _ _ _ _ _ => pg_name (by assumption) rfl (.inl rfl) (.inr rfl)) (hs : ∀ z, foldedSetIterable (.Name x p) X.env z = pure z := by intro _; rfl) :
    DE X cls W (.ListComp elt [⟨.Name y p2, .Name x p, ifs, 0⟩] scope pos) (.val (gLcM i j [j] test o.vg)) :=
  ⟨(pe_lc hc hN (pi_sq (pe_var hx hv hd hcd)) ok hg ht (fun s H C cl fp => (he s H C cl fp).own) hs).imp fun σ H Q q => tLcM_ok q, rfl⟩
theorem s_setLcM (i0 i j : Nat) {z : Str} {py spos : Pos} (hN : X.N.Nodup) (ok : BlkOk X.N X.env.scope scope [(y, j)])
    (ht : ∀ (s : Shared) (H : Hp) (C : Addr) (cl : List (Str × Addr)) (fp : List Addr), DTs (X.blk s H scope (compEnvC scope cl C X.env) fp) cls ifs test) (he : ∀ (s : Shared) (H : Hp) (C : Addr) (cl : List (Str × Addr)) (fp : List Addr), DE (X.blk s H scope (compEnvC scope cl C X.env) fp) cls Wno elt o)
    (hc : X.calm = true := by rfl) (hx : X.N[i]? = some x := by rfl) (hv : Vis X.env.scope x := by first | exact .inl rfl | exact .inr (.inl rfl) | exact .inr (.inr rfl)) (hd : (x == ("__debug__" : Str)) = false := by decide) (hcd : (x == ("__classdict__" : Str)) = false := by decide)
    (hg : ∀ (s : Shared) (H : Hp) (C : Addr) (cl : List (Str × Addr)) (fp : List Addr), PG (X.blk s H scope (compEnvC scope cl C X.env) fp) (.Name y p2) (gName j) := by exact fun _ _ _ _ _ => pg_name (by assumption) rfl (.inl rfl) (.inr rfl)) (hs : ∀ z, foldedSetIterable (.Name x p) X.env z = pure z := by intro _; rfl)
    (hz : X.N[i0]? = some z := by rfl) (hzl : X.env.scope.names.lookup z = some .local := by rfl) (hsw : swapsWith (.ListComp elt [⟨.Name y p2, .Name x p, ifs, 0⟩] scope pos) (some (.Name z py)) spos.line X.env = pure true := by rfl) :
    DS X cls W (.Assign [.Name z py] (.ListComp elt [⟨.Name y p2, .Name x p, ifs, 0⟩] scope pos) spos) [i0] (sSet i0 (gLcM i j [j] test o.vg)) :=
  (ps_setLc hc hN hz hzl hsw (pi_sq (pe_var hx hv hd hcd)) ok hg ht (fun s H C cl fp => (he s H C cl fp).own) hs).imp fun D σ H q => by
    have z : tO (Px X cls) W (.val (gLcM i j [j] test o.vg)) σ H fun v H1 => tN (Px X cls) (setS i0) [i0] v σ H1 D.nx := asg_ok (f := setS i0) (show tS (Px X cls) W [i0] (sAsg (setS i0) (gLcM i j [j] test o.vg)) D σ H from q)
    have z2 : tG (Px X cls) W (gLcM i j [j] test o.vg) σ H fun v H1 => gName i0 v σ H1 D.nx := by
      refine tO_mono z fun v H1 z => ?_
      obtain ⟨ρ, F, fp, t, A, ρ', s, m, h, k⟩ := z
      unfold setS at h
      split at h
      · rename_i l
        cases h
        refine k _ _ (s.set m l) (fun b j h => ?_) Ag.set
        split at h
        · exact .inr h
        · exact .inl ⟨j, h⟩
      · cases h
    exact tLcM_ok z2
end
end Hu
set_option Elab.async false
set_option linter.all false
set_option maxRecDepth 100000
set_option maxHeartbeats 0
namespace Hu
namespace K66
open PySem L2
def top (i : Nat) : Stmt := PySem.Challenge.pw_huedties_k66_rounds_of_many.main.body.getD i (.Pass ⟨0, 0, 0, 0⟩)
/-! robin -/
def N_robin : List Str := ["many", "whole", "rounds", "turn", "pairs", "k", "one", "other", "pair"]
def g_robin_1_t_1 : SG := (sRet (Opd.vg (.val (gLst []))))
def g_robin_1 : SG := (sIf (gTest (gP2 kLtI (.nm 0) (.con (.int 2) (.int 2)))) g_robin_1_t_1 sPass)
def g_robin_2 : SG := (sSet 1 (Opd.vg (.val (gP2 kAdd (.nm 0) (.val (gP2 kModI (.nm 0) (.con (.int 2) (.int 2))))))))
def g_robin_3 : SG := (sSet 2 (Opd.vg (.val (gLst []))))
def g_robin_4_1 : SG := (sSet 4 (Opd.vg (.val (gLst [(.val (gTup [(.nm 3), (.val (gP2 kSubI (.nm 1) (.con (.int 1) (.int 1))))]))]))))
def g_robin_4_2_1 : SG := (sPar [6, 7] [Opd.vg (.val (gP2 kModI (.val (gP2 kAdd (.nm 3) (.nm 5))) (.val (gP2 kSubI (.nm 1) (.con (.int 1) (.int 1)))))), Opd.vg (.val (gP2 kModI (.val (gP2 kSubI (.nm 3) (.nm 5))) (.val (gP2 kSubI (.nm 1) (.con (.int 1) (.int 1))))))])
def g_robin_4_2_2 : SG := (sDrop (Opd.vg (.val (gMut 4 (([(.val (gTup [(.val (gCall (kk2 kMin2) [(.nm 6), (.nm 7)])), (.val (gCall (kk2 kMax2) [(.nm 6), (.nm 7)]))]))].map Opd.vg).map .val) mApp))))
def g_robin_4_2 : SG := (sFor [5, 6, 7] (gOs [(.con (.int 1) (.int 1)), (.val (gP2 kDivI (.nm 1) (.con (.int 2) (.int 2))))] kRng2) (setS 5) (sSeq g_robin_4_2_1 g_robin_4_2_2))
def g_robin_4_3 : SG := (sDrop (Opd.vg (.val (gMut 2 (([(.val (gCall (kk1 kSort) [(.val (gLc [8] (gSeq (.nm 4)) (setS 8) (gTest (gP2 kLtI (oIx kIxA (.nm 8) (.con (.int 1) (.int 1))) (.nm 0))) (Opd.vg (.nm 8))))]))].map Opd.vg).map .val) mApp))))
def g_robin_4 : SG := (sFor [3, 4, 5, 6, 7] (gOs [(.val (gP2 kSubI (.nm 1) (.con (.int 1) (.int 1))))] kRng1) (setS 3) (sSeq g_robin_4_1 (sSeq g_robin_4_2 g_robin_4_3)))
def g_robin_5 : SG := (sRet (Opd.vg (.nm 2)))
def g_robin : SG := (sSeq g_robin_1 (sSeq g_robin_2 (sSeq g_robin_3 (sSeq g_robin_4 g_robin_5))))
def fn_robin : FnT := fnOf 1 9 [1, 2, 3, 4, 5, 6, 7] g_robin
theorem sc_robin : FnScope N_robin ["many"] (defScope (top 1)) := ⟨rfl, rfl, rfl, by decide +kernel, rfl, by decide +kernel, by decide +kernel⟩
theorem ok_robin {P : Program} {w : World} {K : PySem.W.Frag} {mg : Str → Option Value} {base : Heap} {f : Addr} {fd : FuncData} {cls : Str → Addr} (F : Fun K "robin" "robin" (top 1) f fd) (m_range : mg "range" = none) (m_max : mg "max" = none) (m_min : mg "min" = none) (m_sorted : mg "sorted" = none)  : FnOk P w K mg base CX0 1 f fd ["many"] (spT ⟨K, cls⟩ 1 fn_robin) := by
  refine F.ok sc_robin (fun vs H Q E h => h.1) (fun cdv A outer s H vs Q E hr h => ?_)
  have nd := sc_robin.nd
  have t : DSs (cxOf CX0 P w K mg base N_robin "robin" (defScope (top 1)) f cdv A outer s H E).nox cls (fun _ => E) (defBody (top 1)) [1, 2, 3, 4, 5, 6, 7] g_robin :=
    (dss_cons (ds_if (n_lt (n_nm 0) de_int) (dss_one (ds_ret (de_lst .nil))) dss_nil) (dss_cons (s_set 1 nd (n_add (n_nm 0) (n_mod (n_nm 0) de_int))) (dss_cons (s_set 2 nd (de_lst .nil)) (dss_cons (s_for (i_rng1 m_range (n_sub (n_nm 1) de_int)) (t_nm 3 nd) (dss_cons (s_set 4 nd (de_lst (.cons rfl (de_tup (.cons rfl (n_nm 3) (.cons rfl (n_sub (n_nm 1) de_int) .nil))) .nil))) (dss_cons (s_for (i_rng2 m_range de_int (n_div (n_nm 1) de_int)) (t_nm 5 nd) (dss_cons (s_par 6 7 nd (.cons rfl (n_mod (n_add (n_nm 3) (n_nm 5)) (n_sub (n_nm 1) de_int)) (.cons rfl (n_mod (n_sub (n_nm 3) (n_nm 5)) (n_sub (n_nm 1) de_int)) .nil))) (dss_one (s_drop (m_app 4 (de_tup (.cons rfl (n_min2 rfl m_min (n_nm 6) (n_nm 7)) (.cons rfl (n_max2 rfl m_max (n_nm 6) (n_nm 7)) .nil)))))))) (dss_one (s_drop (m_app 2 (n_sorted m_sorted (n_lc (own := [("pair", 8)]) nd (i_seq (n_nm 4)) (blkOk_by (N := N_robin) (sc := defScope (top 1)) (by decide +kernel)) (fun _ _ _ _ _ => (t_nm 8 nd)) (fun _ _ _ _ _ => (dts_one (n_lt (n_ix hr (n_nm 8) de_int) (n_nm 0)))) (fun _ _ _ _ _ => (n_nm 8)))))))))) (dss_one (ds_ret (n_nm 2)))))))
  exact ⟨_, t, body_ok (N := N_robin) (fun _ _ _ _ z => z) h⟩
/-! _law_tape -/
def N_law_tape : List Str := ["_law_script", "_law_k", "_law_cell", "_law_digits"]
def g_law_tape_1 : SG := (sSet 2 (Opd.vg (.con (.int 0) (.int 0))))
def g_law_tape_2_t_1 : SG := (sSet 2 (Opd.vg (oIx kIxA (.nm 0) (.nm 1))))
def g_law_tape_2 : SG := (sIf (gTest (gP2 kLtI (.nm 1) (.val (gCall (kk1 kLenA) [(.nm 0)])))) g_law_tape_2_t_1 sPass)
def g_law_tape_3 : SG := (sSet 3 (Opd.vg (.val (gP2 kMul (.val (gCall (kk1 kAbs) [(.nm 2)])) (.val (gCall (kk1 kInt1) [(.val (gP2 kGeI (.val (gCall (kk1 kAbs) [(.nm 2)])) (.val (gP2 kPowI (.con (.int 10) (.int 10)) (.con (.int 18) (.int 18))))))]))))))
def g_law_tape_4 : SG := (sRet (Opd.vg (.val (gLst [(.nm 3), (.val (gP2 kModI (.val (gP2 kMul (.val (gP2 kModI (.val (gP2 kAdd (.val (gP2 kAdd (.nm 2) (.val (gP2 kMul (.con (.int 7919) (.int 7919)) (.nm 1))))) (.con (.int 1) (.int 1)))) (.con (.int 2147483647) (.int 2147483647)))) (.con (.int 48271) (.int 48271)))) (.con (.int 2147483647) (.int 2147483647))))]))))
def g_law_tape : SG := (sSeq g_law_tape_1 (sSeq g_law_tape_2 (sSeq g_law_tape_3 g_law_tape_4)))
def fn_law_tape : FnT := fnOf 2 4 [2, 2, 3] g_law_tape
theorem sc_law_tape : FnScope N_law_tape ["_law_script", "_law_k"] (defScope (top 3)) := ⟨rfl, rfl, rfl, by decide +kernel, rfl, by decide +kernel, by decide +kernel⟩
theorem ok_law_tape {P : Program} {w : World} {K : PySem.W.Frag} {mg : Str → Option Value} {base : Heap} {f : Addr} {fd : FuncData} {cls : Str → Addr} (F : Fun K "_law_tape" "_law_tape" (top 3) f fd) (m_len : mg "len" = none) (m_abs : mg "abs" = none) (m_int : mg "int" = none)  : FnOk P w K mg base CX0 1 f fd ["_law_script", "_law_k"] (spT ⟨K, cls⟩ 2 fn_law_tape) := by
  refine F.ok sc_law_tape (fun vs H Q E h => h.1) (fun cdv A outer s H vs Q E hr h => ?_)
  have nd := sc_law_tape.nd
  have t : DSs (cxOf CX0 P w K mg base N_law_tape "_law_tape" (defScope (top 3)) f cdv A outer s H E).nox cls (fun _ => E) (defBody (top 3)) [2, 2, 3] g_law_tape :=
    (dss_cons (s_set 2 nd de_int) (dss_cons (ds_if (n_lt (n_nm 1) (n_len m_len (n_nm 0))) (dss_one (s_set 2 nd (n_ix hr (n_nm 0) (n_nm 1)))) dss_nil) (dss_cons (s_set 3 nd (n_mul (n_abs m_abs (n_nm 2)) (n_int m_int (v_ge (n_abs m_abs (n_nm 2)) (n_pow de_int de_int))))) (dss_one (ds_ret (de_lst (.cons rfl (n_nm 3) (.cons rfl (n_mod (n_mul (n_mod (n_add (n_add (n_nm 2) (n_mul de_int (n_nm 1))) de_int) de_int) de_int) de_int) .nil))))))))
  exact ⟨_, t, body_ok (N := N_law_tape) (fun _ _ _ _ z => z) h⟩
/-! _law_draw -/
def N_law_draw : List Str := ["_law_tape_here", "_law_many", "_law_once", "_law_found"]
def g_law_draw_1_t_1 : SG := (sSet 3 (Opd.vg (.val (gP2 kModI (oIx kIxA (.nm 0) (.con (.int 0) (.int 0))) (.nm 1)))))
def g_law_draw_1_t_2 : SG := (sPutA 0 (.con (.int 0) (.int 0)) (Opd.vg (.val (gP2 kDivI (oIx kIxA (.nm 0) (.con (.int 0) (.int 0))) (.nm 1)))))
def g_law_draw_1_t_3 : SG := (sRet (Opd.vg (.nm 3)))
def g_law_draw_1 : SG := (sIf (gTest (gP2 kGtI (oIx kIxA (.nm 0) (.con (.int 0) (.int 0))) (.con (.int 0) (.int 0)))) (sSeq g_law_draw_1_t_1 (sSeq g_law_draw_1_t_2 g_law_draw_1_t_3)) sPass)
def g_law_draw_2 : SG := (sPutA 0 (.con (.int 1) (.int 1)) (Opd.vg (.val (gP2 kModI (.val (gP2 kAdd (.val (gP2 kMul (oIx kIxA (.nm 0) (.con (.int 1) (.int 1))) (.con (.int 48271) (.int 48271)))) (.con (.int 12345) (.int 12345)))) (.con (.int 2147483647) (.int 2147483647))))))
def g_law_draw_3 : SG := (sSet 2 (Opd.vg (.val (gP2 kModI (.val (gP2 kMul (oIx kIxA (.nm 0) (.con (.int 1) (.int 1))) (.val (gP2 kAdd (.val (gP2 kModI (oIx kIxA (.nm 0) (.con (.int 1) (.int 1))) (.con (.int 1009) (.int 1009)))) (.con (.int 3) (.int 3)))))) (.con (.int 2147483629) (.int 2147483629))))))
def g_law_draw_4 : SG := (sRet (Opd.vg (.val (gP2 kModI (.val (gP2 kModI (.val (gP2 kMul (.nm 2) (.val (gP2 kAdd (.val (gP2 kModI (.nm 2) (.con (.int 997) (.int 997)))) (.con (.int 5) (.int 5)))))) (.con (.int 998244353) (.int 998244353)))) (.nm 1)))))
def g_law_draw : SG := (sSeq g_law_draw_1 (sSeq g_law_draw_2 (sSeq g_law_draw_3 g_law_draw_4)))
def fn_law_draw : FnT := fnOf 2 4 [3, 2] g_law_draw
theorem sc_law_draw : FnScope N_law_draw ["_law_tape_here", "_law_many"] (defScope (top 4)) := ⟨rfl, rfl, rfl, by decide +kernel, rfl, by decide +kernel, by decide +kernel⟩
theorem ok_law_draw {P : Program} {w : World} {K : PySem.W.Frag} {mg : Str → Option Value} {base : Heap} {f : Addr} {fd : FuncData} {cls : Str → Addr} (F : Fun K "_law_draw" "_law_draw" (top 4) f fd)   : FnOk P w K mg base CX0 1 f fd ["_law_tape_here", "_law_many"] (spT ⟨K, cls⟩ 2 fn_law_draw) := by
  refine F.ok sc_law_draw (fun vs H Q E h => h.1) (fun cdv A outer s H vs Q E hr h => ?_)
  have nd := sc_law_draw.nd
  have t : DSs (cxOf CX0 P w K mg base N_law_draw "_law_draw" (defScope (top 4)) f cdv A outer s H E).nox cls (fun _ => E) (defBody (top 4)) [3, 2] g_law_draw :=
    (dss_cons (ds_if (n_gt (n_ix hr (n_nm 0) de_int) de_int) (dss_cons (s_set 3 nd (n_mod (n_ix hr (n_nm 0) de_int) (n_nm 1))) (dss_cons (s_put 0 hr (n_div (n_ix hr (n_nm 0) de_int) (n_nm 1)) de_int) (dss_one (ds_ret (n_nm 3))))) dss_nil) (dss_cons (s_put 0 hr (n_mod (n_add (n_mul (n_ix hr (n_nm 0) de_int) de_int) de_int) de_int) de_int) (dss_cons (s_set 2 nd (n_mod (n_mul (n_ix hr (n_nm 0) de_int) (n_add (n_mod (n_ix hr (n_nm 0) de_int) de_int) de_int)) de_int)) (dss_one (ds_ret (n_mod (n_mod (n_mul (n_nm 2) (n_add (n_mod (n_nm 2) de_int) de_int)) de_int) (n_nm 1)))))))
  exact ⟨_, t, body_ok (N := N_law_draw) (fun _ _ _ _ z => z) h⟩
/-! _law_whole -/
def N_law_whole : List Str := ["_law_thing"]
def g_law_whole_1 : SG := (sRet (Opd.vg (.val (gAndV (Opd.vg (.val (gP1 (kIsi .int) (.nm 0)))) (Opd.vg (.val (Opd.vg (.val (gP1 kNot (.val (gP1 (kIsi .bool) (.nm 0))))))))))))
def g_law_whole : SG := g_law_whole_1
def fn_law_whole : FnT := fnOf 1 1 [] g_law_whole
theorem sc_law_whole : FnScope N_law_whole ["_law_thing"] (defScope (top 5)) := ⟨rfl, rfl, rfl, by decide +kernel, rfl, by decide +kernel, by decide +kernel⟩
theorem ok_law_whole {P : Program} {w : World} {K : PySem.W.Frag} {mg : Str → Option Value} {base : Heap} {f : Addr} {fd : FuncData} {cls : Str → Addr} (F : Fun K "_law_whole" "_law_whole" (top 5) f fd) (m_isinstance : mg "isinstance" = none) (m_int : mg "int" = none) (m_bool : mg "bool" = none)  : FnOk P w K mg base CX0 1 f fd ["_law_thing"] (spT ⟨K, cls⟩ 1 fn_law_whole) := by
  refine F.ok sc_law_whole (fun vs H Q E h => h.1) (fun cdv A outer s H vs Q E hr h => ?_)
  have nd := sc_law_whole.nd
  have t : DSs (cxOf CX0 P w K mg base N_law_whole "_law_whole" (defScope (top 5)) f cdv A outer s H E).nox cls (fun _ => E) (defBody (top 5)) [] g_law_whole :=
    (dss_one (ds_ret (de_and (n_isi .int m_isinstance m_int (n_nm 0)) (de_one (de_not (n_isi .bool m_isinstance m_bool (n_nm 0)))))))
  exact ⟨_, t, body_ok (N := N_law_whole) (fun _ _ _ _ z => z) h⟩
/-! _law_rounds_right -/
def N_law_rounds_right : List Str := ["_law_many", "_law_found", "_law_due", "_law_met", "_law_row", "_law_busy", "_law_pair", "_law_one"]
def g_law_rounds_right_1 : SG := (sSet 2 (Opd.vg (oIx kIxA (.val (gLst [(.con (.int 0) (.int 0)), (.val (gP2 kAdd (.val (gP2 kSubI (.nm 0) (.con (.int 1) (.int 1)))) (.val (gP2 kModI (.nm 0) (.con (.int 2) (.int 2))))))])) (.val (gCall (kk1 kInt1) [(.val (gP2 kGtI (.nm 0) (.con (.int 1) (.int 1))))])))))
def g_law_rounds_right_2_t_1 : SG := (sRet (Opd.vg (.con (.bl false) (.bool false))))
def g_law_rounds_right_2 : SG := (sIf (gOrB (gNotB (gTru (.val (gP1 (kIsi .list) (.nm 1))))) (gTest (gP2 (kEqv true) (.val (gCall (kk1 kLenA) [(.nm 1)])) (.nm 2)))) g_law_rounds_right_2_t_1 sPass)
def g_law_rounds_right_3 : SG := (sSet 3 (Opd.vg (.val gNewT)))
def g_law_rounds_right_4_1_t_1 : SG := (sRet (Opd.vg (.con (.bl false) (.bool false))))
def g_law_rounds_right_4_1 : SG := (sIf (gOrB (gNotB (gTru (.val (gP1 (kIsi .list) (.nm 4))))) (gOrB (gTest (gP2 (kEqv true) (.val (gCall (kk1 kLenA) [(.nm 4)])) (.val (gP2 kDivI (.nm 0) (.con (.int 2) (.int 2)))))) (gTest (gP2 (kEqv true) (.nm 4) (.val (gCall (kk1 kSort) [(.nm 4)])))))) g_law_rounds_right_4_1_t_1 sPass)
def g_law_rounds_right_4_2 : SG := (sSet 5 (Opd.vg (.val (gLst []))))
def g_law_rounds_right_4_3_1_t_1 : SG := (sRet (Opd.vg (.con (.bl false) (.bool false))))
def g_law_rounds_right_4_3_1 : SG := (sIf (gOrB (gNotB (gTru (.val (gP1 (kIsi .tuple) (.nm 6))))) (gOrB (gTest (gP2 (kEqv true) (.val (gCall (kk1 kLenA) [(.nm 6)])) (.con (.int 2) (.int 2)))) (gNotB (gTru (.val (gCall (kk1 kAll) [(.val (gLc [7] (gSeq (.nm 6)) (setS 7) gYes (Opd.vg (.val (gUser fn_law_whole [false] ([(.nm 7)].map Opd.lt))))))])))))) g_law_rounds_right_4_3_1_t_1 sPass)
def g_law_rounds_right_4_3_2_t_1 : SG := (sRet (Opd.vg (.con (.bl false) (.bool false))))
def g_law_rounds_right_4_3_2 : SG := (sIf (gOrB (gNotB (gChn (Opd.vg (.con (.int 0) (.int 0))) [fun i j => decide (i ≤ j), fun i j => decide (i < j), fun i j => decide (i < j)] [gInt (Opd.vg (oIx kIxA (.nm 6) (.con (.int 0) (.int 0)))), gInt (Opd.vg (oIx kIxA (.nm 6) (.con (.int 1) (.int 1)))), gInt (Opd.vg (.nm 0))])) (gTest (gP2 (kIn false) (.nm 6) (.nm 3)))) g_law_rounds_right_4_3_2_t_1 sPass)
def g_law_rounds_right_4_3_3 : SG := (sPutA 3 (.nm 6) (Opd.vg (.con (.bl true) (.bool true))))
def g_law_rounds_right_4_3_4 : SG := (sDrop (Opd.vg (.val (gMut 5 [(.val (gCall (kk1 kListOf) [(.nm 6)]))] mExt))))
def g_law_rounds_right_4_3 : SG := (sFor [6] (gSeq (.nm 4)) (setS 6) (sSeq g_law_rounds_right_4_3_1 (sSeq g_law_rounds_right_4_3_2 (sSeq g_law_rounds_right_4_3_3 g_law_rounds_right_4_3_4))))
def g_law_rounds_right_4_4_t_1 : SG := (sRet (Opd.vg (.con (.bl false) (.bool false))))
def g_law_rounds_right_4_4 : SG := (sIf (gTest (gP2 (kEqv true) (.val (gOs [(.nm 5)] (kP (kk1 kLenSet)))) (.val (gCall (kk1 kLenA) [(.nm 5)])))) g_law_rounds_right_4_4_t_1 sPass)
def g_law_rounds_right_4 : SG := (sFor [4, 5, 6] (gSeq (.nm 1)) (setS 4) (sSeq g_law_rounds_right_4_1 (sSeq g_law_rounds_right_4_2 (sSeq g_law_rounds_right_4_3 g_law_rounds_right_4_4))))
def g_law_rounds_right_5 : SG := (sRet (Opd.vg (.val (gP2 (kEqv false) (.val (gCall (kk1 kLenA) [(.nm 3)])) (.val (gP2 kDivI (.val (gP2 kMul (.nm 0) (.val (gP2 kSubI (.nm 0) (.con (.int 1) (.int 1)))))) (.con (.int 2) (.int 2))))))))
def g_law_rounds_right : SG := (sSeq g_law_rounds_right_1 (sSeq g_law_rounds_right_2 (sSeq g_law_rounds_right_3 (sSeq g_law_rounds_right_4 g_law_rounds_right_5))))
def fn_law_rounds_right : FnT := fnOf 2 8 [2, 3, 4, 5, 6] g_law_rounds_right
theorem sc_law_rounds_right : FnScope N_law_rounds_right ["_law_many", "_law_found"] (defScope (top 6)) := ⟨rfl, rfl, rfl, by decide +kernel, rfl, by decide +kernel, by decide +kernel⟩
theorem ok_law_rounds_right {P : Program} {w : World} {K : PySem.W.Frag} {mg : Str → Option Value} {base : Heap} {f : Addr} {fd : FuncData} {cls : Str → Addr} (F : Fun K "_law_rounds_right" "_law_rounds_right" (top 6) f fd) (m_int : mg "int" = none) (m_isinstance : mg "isinstance" = none) (m_list : mg "list" = none) (m_len : mg "len" = none) (m_sorted : mg "sorted" = none) (m_tuple : mg "tuple" = none) (m_all : mg "all" = none) (m_set : mg "set" = none) (u_law_whole : Cl P w K mg base 1 "_law_whole" (spT ⟨K, cls⟩ 1 fn_law_whole)) : FnOk P w K mg base CX0 2 f fd ["_law_many", "_law_found"] (spT ⟨K, cls⟩ 2 fn_law_rounds_right) := by
  refine F.ok sc_law_rounds_right (fun vs H Q E h => h.1) (fun cdv A outer s H vs Q E hr h => ?_)
  have nd := sc_law_rounds_right.nd
  have t : DSs (cxOf CX0 P w K mg base N_law_rounds_right "_law_rounds_right" (defScope (top 6)) f cdv A outer s H E).nox cls (fun _ => E) (defBody (top 6)) [2, 3, 4, 5, 6] g_law_rounds_right :=
    (dss_cons (s_set 2 nd (n_ix hr (de_lst (.cons rfl de_int (.cons rfl (n_add (n_sub (n_nm 0) de_int) (n_mod (n_nm 0) de_int)) .nil))) (n_int m_int (v_gt (n_nm 0) de_int)))) (dss_cons (ds_if (L2.PW.pt (dw_or (dt_not (n_tru (n_isi .list m_isinstance m_list (n_nm 1)))) (dw_or1 (n_ne hr (n_len m_len (n_nm 1)) (n_nm 2))))) (dss_one (ds_ret de_bl)) dss_nil) (dss_cons (s_set 3 nd de_newT) (dss_cons (s_for (i_seq (n_nm 1)) (t_nm 4 nd) (dss_cons (ds_if (L2.PW.pt (dw_or (dt_not (n_tru (n_isi .list m_isinstance m_list (n_nm 4)))) (dw_or (n_ne hr (n_len m_len (n_nm 4)) (n_div (n_nm 0) de_int)) (dw_or1 (n_ne hr (n_nm 4) (n_sorted m_sorted (n_nm 4))))))) (dss_one (ds_ret de_bl)) dss_nil) (dss_cons (s_set 5 nd (de_lst .nil)) (dss_cons (s_for (i_seq (n_nm 4)) (t_nm 6 nd) (dss_cons (ds_if (L2.PW.pt (dw_or (dt_not (n_tru (n_isi .tuple m_isinstance m_tuple (n_nm 6)))) (dw_or (n_ne hr (n_len m_len (n_nm 6)) de_int) (dw_or1 (dt_not (n_tru (n_all rfl m_all (n_lc (own := [("_law_one", 7)]) nd (i_seq (n_nm 6)) (blkOk_by (N := N_law_rounds_right) (sc := defScope (top 6)) (by decide +kernel)) (fun _ _ _ _ _ => (t_nm 7 nd)) (fun _ _ _ _ _ => dts_nil) (fun _ _ _ _ _ => (n_user u_law_whole hr (.cons rfl (n_nm 7) .nil))))))))))) (dss_one (ds_ret de_bl)) dss_nil) (dss_cons (ds_if (L2.PW.pt (dw_or (dt_not (dt_chain de_int (.cons op_le (n_ix hr (n_nm 6) de_int) (.cons op_lt (n_ix hr (n_nm 6) de_int) (.one op_lt (n_nm 0)))) (by with_unfolding_all rfl))) (dw_or1 (n_in hr (n_nm 6) (n_nm 3))))) (dss_one (ds_ret de_bl)) dss_nil) (dss_cons (s_put 3 hr de_bl (n_nm 6)) (dss_one (s_drop (m_ext 5 (n_list m_list (n_nm 6))))))))) (dss_one (ds_if (n_ne hr (n_lenSet m_len m_set (n_nm 5)) (n_len m_len (n_nm 5))) (dss_one (ds_ret de_bl)) dss_nil)))))) (dss_one (ds_ret (v_eq hr (n_len m_len (n_nm 3)) (n_div (n_mul (n_nm 0) (n_sub (n_nm 0) de_int)) de_int))))))))
  exact ⟨_, t, body_ok (N := N_law_rounds_right) (fun _ _ _ _ z => z) h⟩
/-! law -/
def N_law : List Str := ["_law_script", "_law_some", "_law_k", "_law_many", "_law_tape_here", "_law_found", "_law_kept", "_law_row"]
def g_law_1 : SG := (sSet 1 (Opd.vg (.val (gLst [(.con (.int 0) (.int 0)), (.con (.int 1) (.int 1)), (.con (.int 2) (.int 2))]))))
def g_law_2_1 : SG := (sSet 4 (Opd.vg (.val (gUser fn_law_tape [false, false] ([(.nm 0), (.nm 2)].map Opd.lt)))))
def g_law_2_2 : SG := (sDrop (Opd.vg (.val (gMut 1 (([(.val (gUser fn_law_draw [true, false] ([(.nm 4), (oIx kIxA (.val (gLst [(.con (.int 31) (.int 31)), (.con (.int 31) (.int 31)), (.con (.int 31) (.int 31)), (.con (.int 61) (.int 61))])) (.val (gUser fn_law_draw [true, false] ([(.nm 4), (.con (.int 4) (.int 4))].map Opd.lt))))].map Opd.lt)))].map Opd.vg).map .val) mApp))))
def g_law_2 : SG := (sFor [2, 4] (gOs [(.val (gCall (kk2 kMax2) [(.con (.int 3) (.int 3)), (.val (gCall (kk2 kMin2) [(.val (gCall (kk1 kLenA) [(.nm 0)])), (.con (.int 12) (.int 12))]))]))] kRng1) (setS 2) (sSeq g_law_2_1 g_law_2_2))
def g_law_3_1 : SG := (sSet 5 (Opd.vg (.val (gUser fn_robin [false] ([(.nm 3)].map Opd.lt)))))
def g_law_3_2_t_1 : SG := (sRet (Opd.vg (.con (.bl false) (.bool false))))
def g_law_3_2 : SG := (sIf (gNotB (gTru (.val (gUser fn_law_rounds_right [false, false] ([(.nm 3), (.nm 5)].map Opd.lt))))) g_law_3_2_t_1 sPass)
def g_law_3_3 : SG := (sSet 6 (gLcM 5 7 [7] gYes (Opd.vg (.val (gCall (kk1 kTupOf) [(.nm 7)])))))
def g_law_3_4_1 : SG := (sDrop (Opd.vg (.val (gMut 7 (([(.val (gTup [(.con (.int 0) (.int 0)), (.con (.int 0) (.int 0))]))].map Opd.vg).map .val) mApp))))
def g_law_3_4 : SG := (sForM 5 7 [] g_law_3_4_1)
def g_law_3_5 : SG := (sDrop (Opd.vg (.val (gMut 5 (([(.val (gLst []))].map Opd.vg).map .val) mApp))))
def g_law_3_6_t_1 : SG := (sRet (Opd.vg (.con (.bl false) (.bool false))))
def g_law_3_6 : SG := (sIf (gTest (gP2 (kEqv true) (.val (gLc [7] (gSeq (.val (gUser fn_robin [false] ([(.nm 3)].map Opd.lt)))) (setS 7) gYes (Opd.vg (.val (gCall (kk1 kTupOf) [(.nm 7)]))))) (.nm 6))) g_law_3_6_t_1 sPass)
def g_law_3 : SG := (sFor [3, 5, 6, 7] (gSeq (.nm 1)) (setS 3) (sSeq g_law_3_1 (sSeq g_law_3_2 (sSeq g_law_3_3 (sSeq g_law_3_4 (sSeq g_law_3_5 g_law_3_6))))))
def g_law_4 : SG := (sRet (Opd.vg (.con (.bl true) (.bool true))))
def g_law : SG := (sSeq g_law_1 (sSeq g_law_2 (sSeq g_law_3 g_law_4)))
def fn_law : FnT := fnOf 1 8 [1, 2, 4, 3, 5, 6, 7] g_law
theorem sc_law : FnScope N_law ["_law_script"] (defScope (top 7)) := ⟨rfl, rfl, rfl, by decide +kernel, rfl, by decide +kernel, by decide +kernel⟩
theorem ok_law {P : Program} {w : World} {K : PySem.W.Frag} {mg : Str → Option Value} {base : Heap} {f : Addr} {fd : FuncData} {cls : Str → Addr} (F : Fun K "law" "law" (top 7) f fd) (m_len : mg "len" = none) (m_min : mg "min" = none) (m_max : mg "max" = none) (m_range : mg "range" = none) (m_tuple : mg "tuple" = none) (u_law_tape : Cl P w K mg base 1 "_law_tape" (spT ⟨K, cls⟩ 2 fn_law_tape)) (u_law_draw : Cl P w K mg base 1 "_law_draw" (spT ⟨K, cls⟩ 2 fn_law_draw)) (u_robin : Cl P w K mg base 1 "robin" (spT ⟨K, cls⟩ 1 fn_robin)) (u_law_rounds_right : Cl P w K mg base 2 "_law_rounds_right" (spT ⟨K, cls⟩ 2 fn_law_rounds_right)) : FnOk P w K mg base CX0 3 f fd ["_law_script"] (spT ⟨K, cls⟩ 1 fn_law) := by
  refine F.ok sc_law (fun vs H Q E h => h.1) (fun cdv A outer s H vs Q E hr h => ?_)
  have nd := sc_law.nd
  have t : DSs (cxOf CX0 P w K mg base N_law "law" (defScope (top 7)) f cdv A outer s H E).nox cls (fun _ => E) (defBody (top 7)) [1, 2, 4, 3, 5, 6, 7] g_law :=
    (dss_cons (s_set 1 nd (de_lst (.cons rfl de_int (.cons rfl de_int (.cons rfl de_int .nil))))) (dss_cons (s_for (i_rng1 m_range (n_max2 rfl m_max de_int (n_min2 rfl m_min (n_len m_len (n_nm 0)) de_int))) (t_nm 2 nd) (dss_cons (s_set 4 nd (n_user u_law_tape hr (.cons rfl (n_nm 0) (.cons rfl (n_nm 2) .nil)))) (dss_one (s_drop (m_app 1 (n_user u_law_draw hr (.cons rfl (n_nm 4) (.cons rfl (n_ix hr (de_lst (.cons rfl de_int (.cons rfl de_int (.cons rfl de_int (.cons rfl de_int .nil))))) (n_user u_law_draw hr (.cons rfl (n_nm 4) (.cons rfl de_int .nil)))) .nil)))))))) (dss_cons (s_for (i_seq (n_nm 1)) (t_nm 3 nd) (dss_cons (s_set 5 nd (n_user u_robin hr (.cons rfl (n_nm 3) .nil))) (dss_cons (ds_if (dt_not (n_tru (n_user u_law_rounds_right hr (.cons rfl (n_nm 3) (.cons rfl (n_nm 5) .nil))))) (dss_one (ds_ret de_bl)) dss_nil) (dss_cons (s_setLcM 6 5 7 nd (blkOk_by (N := N_law) (sc := defScope (top 7)) (by decide +kernel)) (fun _ _ _ _ _ => dts_nil) (fun _ _ _ _ _ => (n_tuple m_tuple (n_nm 7)))) (dss_cons (s_forM 5 7 nd (dss_one (s_drop (m_app 7 (de_tup (.cons rfl de_int (.cons rfl de_int .nil))))))) (dss_cons (s_drop (m_app 5 (de_lst .nil))) (dss_one (ds_if (n_ne hr (n_lc (own := [("_law_row", 7)]) nd (i_seq (n_user u_robin hr (.cons rfl (n_nm 3) .nil))) (blkOk_by (N := N_law) (sc := defScope (top 7)) (by decide +kernel)) (fun _ _ _ _ _ => (t_nm 7 nd)) (fun _ _ _ _ _ => dts_nil) (fun _ _ _ _ _ => (n_tuple m_tuple (n_nm 7)))) (n_nm 6)) (dss_one (ds_ret de_bl)) dss_nil)))))))) (dss_one (ds_ret de_bl)))))
  exact ⟨_, t, body_ok (N := N_law) (fun _ _ _ _ z => z) h⟩
theorem all_mk {P : Program} {w : World} {K : PySem.W.Frag} {h : Heap} {mg : Str → Option Value} {fa f1 f2 f3 f4 f5 f6 : Addr} (X : K.In h) (G : h.Ns mainGlobals mg) (hfa : mg "law" = some (.ref fa))
    {od1 an1 od2 an2 od3 an3 od4 an4 od5 an5 od6 an6 : Option Addr} {sl1 sl2 sl3 sl4 sl5 sl6 : Array (Option Value)} {oc1 kV1 dc1 pm1 cd1 ct1 oc2 kV2 dc2 pm2 cd2 ct2 oc3 kV3 dc3 pm3 cd3 ct3 oc4 kV4 dc4 pm4 cd4 ct4 oc5 kV5 dc5 pm5 cd5 ct5 oc6 kV6 dc6 pm6 cd6 ct6 : Value}
    (a1 : PySem.W.nsIn K mainGlobals "robin" = some (some (.ref f1))) (l1 : K.lookup f1 = some ⟨oc1, od1, .func (PySem.W.fnOf "robin" "robin" (defArgs (top 1)) (defBody (top 1)) (defScope (top 1)) .none kV1 dc1 pm1 an1 cd1 ct1), sl1⟩) (c1 : PySem.W.codeIn K cd1 "robin" = true) (k1 : PySem.W.keepIn K (.ref f1) = true)
    (a2 : PySem.W.nsIn K mainGlobals "_law_tape" = some (some (.ref f2))) (l2 : K.lookup f2 = some ⟨oc2, od2, .func (PySem.W.fnOf "_law_tape" "_law_tape" (defArgs (top 3)) (defBody (top 3)) (defScope (top 3)) .none kV2 dc2 pm2 an2 cd2 ct2), sl2⟩) (c2 : PySem.W.codeIn K cd2 "_law_tape" = true) (k2 : PySem.W.keepIn K (.ref f2) = true)
    (a3 : PySem.W.nsIn K mainGlobals "_law_draw" = some (some (.ref f3))) (l3 : K.lookup f3 = some ⟨oc3, od3, .func (PySem.W.fnOf "_law_draw" "_law_draw" (defArgs (top 4)) (defBody (top 4)) (defScope (top 4)) .none kV3 dc3 pm3 an3 cd3 ct3), sl3⟩) (c3 : PySem.W.codeIn K cd3 "_law_draw" = true) (k3 : PySem.W.keepIn K (.ref f3) = true)
    (a4 : PySem.W.nsIn K mainGlobals "_law_whole" = some (some (.ref f4))) (l4 : K.lookup f4 = some ⟨oc4, od4, .func (PySem.W.fnOf "_law_whole" "_law_whole" (defArgs (top 5)) (defBody (top 5)) (defScope (top 5)) .none kV4 dc4 pm4 an4 cd4 ct4), sl4⟩) (c4 : PySem.W.codeIn K cd4 "_law_whole" = true) (k4 : PySem.W.keepIn K (.ref f4) = true)
    (a5 : PySem.W.nsIn K mainGlobals "_law_rounds_right" = some (some (.ref f5))) (l5 : K.lookup f5 = some ⟨oc5, od5, .func (PySem.W.fnOf "_law_rounds_right" "_law_rounds_right" (defArgs (top 6)) (defBody (top 6)) (defScope (top 6)) .none kV5 dc5 pm5 an5 cd5 ct5), sl5⟩) (c5 : PySem.W.codeIn K cd5 "_law_rounds_right" = true) (k5 : PySem.W.keepIn K (.ref f5) = true)
    (a6 : PySem.W.nsIn K mainGlobals "law" = some (some (.ref f6))) (l6 : K.lookup f6 = some ⟨oc6, od6, .func (PySem.W.fnOf "law" "law" (defArgs (top 7)) (defBody (top 7)) (defScope (top 7)) .none kV6 dc6 pm6 an6 cd6 ct6), sl6⟩) (c6 : PySem.W.codeIn K cd6 "law" = true) (k6 : PySem.W.keepIn K (.ref f6) = true)
    (z_range : PySem.W.nsIn K mainGlobals "range" = some none)
    (z_max : PySem.W.nsIn K mainGlobals "max" = some none)
    (z_min : PySem.W.nsIn K mainGlobals "min" = some none)
    (z_sorted : PySem.W.nsIn K mainGlobals "sorted" = some none)
    (z_len : PySem.W.nsIn K mainGlobals "len" = some none)
    (z_abs : PySem.W.nsIn K mainGlobals "abs" = some none)
    (z_int : PySem.W.nsIn K mainGlobals "int" = some none)
    (z_isinstance : PySem.W.nsIn K mainGlobals "isinstance" = some none)
    (z_bool : PySem.W.nsIn K mainGlobals "bool" = some none)
    (z_list : PySem.W.nsIn K mainGlobals "list" = some none)
    (z_tuple : PySem.W.nsIn K mainGlobals "tuple" = some none)
    (z_all : PySem.W.nsIn K mainGlobals "all" = some none)
    (z_set : PySem.W.nsIn K mainGlobals "set" = some none)
    (hk : Keeps fn_law) : ∃ fd : FuncData, (∀ (s : Shared) (v : Value), BindsTo s fd ⟨[v], []⟩ [("_law_script", v)]) ∧ ∀ base : Heap, K.In base → base.Ns mainGlobals mg → FnOk P w K mg base CX0 3 fa fd ["_law_script"] (spLaw K) := by
  have e := hfa.symm.trans (PySem.W.mg_of X G a6)
  cases e
  have F1 := fun_mk (st := top 1) l1 c1 k1
  have b1 := F1.binds (ps := ["many"]) fun _ _ _ _ _ _ us hl => match us, hl with | [_], _ => rfl
  have F2 := fun_mk (st := top 3) l2 c2 k2
  have b2 := F2.binds (ps := ["_law_script", "_law_k"]) fun _ _ _ _ _ _ us hl => match us, hl with | [_, _], _ => rfl
  have F3 := fun_mk (st := top 4) l3 c3 k3
  have b3 := F3.binds (ps := ["_law_tape_here", "_law_many"]) fun _ _ _ _ _ _ us hl => match us, hl with | [_, _], _ => rfl
  have F4 := fun_mk (st := top 5) l4 c4 k4
  have b4 := F4.binds (ps := ["_law_thing"]) fun _ _ _ _ _ _ us hl => match us, hl with | [_], _ => rfl
  have F5 := fun_mk (st := top 6) l5 c5 k5
  have b5 := F5.binds (ps := ["_law_many", "_law_found"]) fun _ _ _ _ _ _ us hl => match us, hl with | [_, _], _ => rfl
  have F6 := fun_mk (st := top 7) l6 c6 k6
  have b6 := F6.binds (ps := ["_law_script"]) fun _ _ _ _ _ _ us hl => match us, hl with | [_], _ => rfl
  have m_range := PySem.W.mg_none_of X G z_range
  have m_max := PySem.W.mg_none_of X G z_max
  have m_min := PySem.W.mg_none_of X G z_min
  have m_sorted := PySem.W.mg_none_of X G z_sorted
  have m_len := PySem.W.mg_none_of X G z_len
  have m_abs := PySem.W.mg_none_of X G z_abs
  have m_int := PySem.W.mg_none_of X G z_int
  have m_isinstance := PySem.W.mg_none_of X G z_isinstance
  have m_bool := PySem.W.mg_none_of X G z_bool
  have m_list := PySem.W.mg_none_of X G z_list
  have m_tuple := PySem.W.mg_none_of X G z_tuple
  have m_all := PySem.W.mg_none_of X G z_all
  have m_set := PySem.W.mg_none_of X G z_set
  refine ⟨PySem.W.fnOf "law" "law" (defArgs (top 7)) (defBody (top 7)) (defScope (top 7)) .none kV6 dc6 pm6 an6 cd6 ct6, fun s v => .of_eq rfl, fun base _ _ => law_sp (cls := fun _ => 0) ?_ hk⟩
  have u_robin : Cl P w K mg base 1 "robin" (spT ⟨K, fun _ => 0⟩ 1 fn_robin) := ⟨f1, _, _, ok_robin F1 m_range m_max m_min m_sorted, PySem.W.mg_of X G a1, k1, b1⟩
  have u_law_tape : Cl P w K mg base 1 "_law_tape" (spT ⟨K, fun _ => 0⟩ 2 fn_law_tape) := ⟨f2, _, _, ok_law_tape F2 m_len m_abs m_int, PySem.W.mg_of X G a2, k2, b2⟩
  have u_law_draw : Cl P w K mg base 1 "_law_draw" (spT ⟨K, fun _ => 0⟩ 2 fn_law_draw) := ⟨f3, _, _, ok_law_draw F3 , PySem.W.mg_of X G a3, k3, b3⟩
  have u_law_whole : Cl P w K mg base 1 "_law_whole" (spT ⟨K, fun _ => 0⟩ 1 fn_law_whole) := ⟨f4, _, _, ok_law_whole F4 m_isinstance m_int m_bool, PySem.W.mg_of X G a4, k4, b4⟩
  have u_law_rounds_right : Cl P w K mg base 2 "_law_rounds_right" (spT ⟨K, fun _ => 0⟩ 2 fn_law_rounds_right) := ⟨f5, _, _, ok_law_rounds_right F5 m_int m_isinstance m_list m_len m_sorted m_tuple m_all m_set u_law_whole, PySem.W.mg_of X G a5, k5, b5⟩
  exact ok_law (cls := fun _ => 0) F6 m_len m_min m_max m_range m_tuple u_law_tape u_law_draw u_robin u_law_rounds_right
end K66
end Hu
set_option maxRecDepth 1000000
namespace Hu
namespace K66
open PySem L2
abbrev tI (i : Int) : T := .d (.int i)
theorem draw_pos (a b m : Int) (ha : 0 < a) (hm : 0 < m) (hm2 : m < 1073741824) : fn_law_draw [.lst [tI a, tI b], tI m] = .ret (tI (a % m)) [some (.lst [tI (a / m), tI b]), some (tI m)] := by
  simp [fn_law_draw, fnOf, g_law_draw, g_law_draw_1, g_law_draw_1_t_1, g_law_draw_1_t_2, g_law_draw_1_t_3, g_law_draw_2, g_law_draw_3, g_law_draw_4, sSeq, sIf, sSet, sPutA, sRet, sPass, Out.s, Out.bind, gTest, gP2, kP, kk2, gOs, runs, fins, Opd.run, Opd.vg, Opd.safe, Opd.still, isD, gVar, gPk, getS, setS, oIx, gIx, kIxA, kIxK, kIx, kGtI, kI2, kModI, kDivI, atI, ixN, putA, ha, hm, hm2, backS]
theorem in64_of {x : Int} (h1 : -(2 ^ 64) < x) (h2 : x < 2 ^ 64) : in64 x = true := by simp [in64]; omega
theorem in64_m1 (x : Int) : in64 (x % 1009 + 3) = true := in64_of (by omega) (by omega)
theorem in64_m2 (x : Int) : in64 (x % 997 + 5) = true := in64_of (by omega) (by omega)
theorem in64_c : in64 48271 = true := in64_of (by omega) (by omega)
theorem in64_d : in64 7919 = true := in64_of (by omega) (by omega)
def nB (b : Int) : Int := (b * 48271 + 12345) % 2147483647
def nO (b : Int) : Int := nB b * (nB b % 1009 + 3) % 2147483629
theorem draw_zero (b m : Int) (hm : 0 < m) (hm2 : m < 1073741824) : fn_law_draw [.lst [tI 0, tI b], tI m] = .ret (tI (nO b * (nO b % 997 + 5) % 998244353 % m)) [some (.lst [tI 0, tI (nB b)]), some (tI m)] := by
  simp [fn_law_draw, fnOf, g_law_draw, g_law_draw_1, g_law_draw_1_t_1, g_law_draw_1_t_2, g_law_draw_1_t_3, g_law_draw_2, g_law_draw_3, g_law_draw_4, sSeq, sIf, sSet, sPutA, sRet, sPass, Out.s, Out.bind, gTest, gP2, kP, kk2, gOs, runs, fins, Opd.run, Opd.vg, Opd.safe, Opd.still, isD, gVar, gPk, getS, setS, oIx, gIx, kIxA, kIxK, kIx, kGtI, kI2, kModI, kDivI, kMul, kMulI, kAdd, kAddI, in64_m1, in64_m2, in64_c, atI, ixN, putA, hm, hm2, backS, nO, nB]
theorem draw (a b m : Int) (ha : 0 ≤ a) (hm : 0 < m) (hm2 : m < 1073741824) : ∃ v a' b', 0 ≤ v ∧ v < m ∧ 0 ≤ a' ∧ fn_law_draw [.lst [tI a, tI b], tI m] = .ret (tI v) [some (.lst [tI a', tI b']), some (tI m)] := by
  by_cases h : 0 < a
  · exact ⟨_, _, _, Int.emod_nonneg _ (by omega), Int.emod_lt_of_pos _ hm, Int.ediv_nonneg ha (by omega), draw_pos a b m h hm hm2⟩
  · have : a = 0 := by omega
    subst this
    exact ⟨_, 0, _, Int.emod_nonneg _ (by omega), Int.emod_lt_of_pos _ hm, by omega, draw_zero b m hm hm2⟩
def aB (c : Int) : Int := if c < 0 then -c else c
def tD (c : Int) : Int := aB c * (if 10 ^ 18 ≤ aB c then 1 else 0)
def tM (c k : Int) : Int := (c + 7919 * k + 1) % 2147483647 * 48271 % 2147483647
theorem in64_0 : in64 0 = true := in64_of (by omega) (by omega)
theorem in64_b (p : Prop) [Decidable p] : in64 (if p then 1 else 0) = true := by split <;> exact in64_of (by omega) (by omega)
theorem tape_3 (ns : List Int) (k c : Int) (u : Option T) : g_law_tape_3 [some (.scr ns), some (tI k), some (tI c), u] = .nx [some (.scr ns), some (tI k), some (tI c), some (tI (tD c))] := by
  have e : ∀ x y : Int, kMul (.d (.int x)) (.d (.int y)) = (kMulI (.d (.int x)) (.d (.int y))).or (kMulL (.d (.int x)) (.d (.int y))) := fun _ _ => rfl
  by_cases h : (10 : Int) ^ 18 ≤ aB c
  · have h2 : (1000000000000000000 : Int) ≤ aB c := by omega
    have e1 : in64 1 = true := in64_of (by omega) (by omega)
    unfold aB at h2
    simp [g_law_tape_3, sSet, Out.s, Out.bind, gP2, kP, kk2, kk1, gOs, runs, fins, Opd.run, Opd.vg, Opd.safe, Opd.still, isD, getS, setS, gCall, kGeI, kI2, kPowI, kAbs, kInt1, kMul, kMulI, e1, tD, aB, h2]
  · have h2 : ¬ (1000000000000000000 : Int) ≤ aB c := by omega
    unfold aB at h2
    simp [g_law_tape_3, sSet, Out.s, Out.bind, gP2, kP, kk2, kk1, gOs, runs, fins, Opd.run, Opd.vg, Opd.safe, Opd.still, isD, getS, setS, gCall, kGeI, kI2, kPowI, kAbs, kInt1, kMul, kMulI, in64_0, tD, aB, h2]
theorem tape_4 (ns : List Int) (k c d : Int) : g_law_tape_4 [some (.scr ns), some (tI k), some (tI c), some (tI d)] = .rt (.lst [tI d, tI (tM c k)]) [some (.scr ns), some (tI k), some (tI c), some (tI d)] := by
  simp [g_law_tape_4, sRet, Out.s, Out.bind, gP2, kP, kk2, kk1, gOs, runs, fins, Opd.run, Opd.vg, Opd.safe, Opd.still, isD, gVar, getS, setS, gLst, kLst, kI2, kModI, kMul, kMulI, kAdd, kAddI, in64_c, in64_d, sizeLine_eq, tM]
theorem tape_2 (ns : List Int) (k : Nat) : ∃ c, g_law_tape_2 [some (.scr ns), some (tI k), some (tI 0), none] = .nx [some (.scr ns), some (tI k), some (tI c), none] := by
  by_cases h : k < ns.length
  · have e1 : atI ns (k : Int) = some ns[k] := atI_nat (by simp [h])
    refine ⟨ns[k], ?_⟩
    simp [g_law_tape_2, g_law_tape_2_t_1, sIf, sSet, sPass, Out.s, Out.bind, gTest, gP2, kP, kk2, kk1, gOs, runs, fins, Opd.run, Opd.vg, Opd.safe, Opd.still, isD, gVar, gPk, getS, setS, oIx, gIx, gCall, kIxA, kIxK, kIx, kLtI, kLenA, kLen, kI2, h, e1]
  · refine ⟨0, ?_⟩
    simp [g_law_tape_2, g_law_tape_2_t_1, sIf, sSet, sPass, Out.s, Out.bind, gTest, gP2, kP, kk2, kk1, gOs, runs, fins, Opd.run, Opd.vg, Opd.safe, Opd.still, isD, gVar, gPk, getS, setS, oIx, gIx, gCall, kIxA, kIxK, kIx, kLtI, kLenA, kLen, kI2, h]
theorem tape_1 (ns : List Int) (k : Int) : g_law_tape_1 [some (.scr ns), some (tI k), none, none] = .nx [some (.scr ns), some (tI k), some (tI 0), none] := by
  simp [g_law_tape_1, sSet, Out.s, Opd.vg, setS]
theorem tape (ns : List Int) (k : Nat) : ∃ a b, 0 ≤ a ∧ fn_law_tape [.scr ns, tI k] = .ret (.lst [tI a, tI b]) [some (.scr ns), some (tI k)] := by
  obtain ⟨c, h2⟩ := tape_2 ns k
  refine ⟨tD c, tM c k, ?_, ?_⟩
  · unfold tD aB
    split <;> split <;> omega
  · have : g_law_tape [some (.scr ns), some (tI k), none, none] = .rt (.lst [tI (tD c), tI (tM c k)]) [some (.scr ns), some (tI k), some (tI c), some (tI (tD c))] := by
      simp only [g_law_tape, sSeq, tape_1, h2, tape_3, tape_4]
    show fnOf 2 4 [2, 2, 3] g_law_tape _ = _
    simp only [fnOf, List.map_cons, List.map_nil, List.cons_append, List.nil_append]
    rw [show (List.replicate (4 - 2) (none : Option T)) = [none, none] from rfl, this]
    rfl
/-! calls -/
abbrev R8 := List (Option T)
theorem u_tape (ns : List Int) (k : Nat) (x1 x3 x4 x5 x6 x7 : Option T) : ∃ a b, 0 ≤ a ∧ g_law_2_1 [some (.scr ns), x1, some (tI k), x3, x4, x5, x6, x7] = .nx [some (.scr ns), x1, some (tI k), x3, some (.lst [tI a, tI b]), x5, x6, x7] := by
  obtain ⟨a, b, h, e⟩ := tape ns k
  refine ⟨a, b, h, ?_⟩
  have e1 : lendC [.nm 0, .nm 2] [false, false] = true := rfl
  simp [g_law_2_1, sSet, Out.s, Out.bind, gUser, gOs, runs, fins, Opd.run, Opd.vg, Opd.lt, Opd.safe, Opd.still, isD, getS, setS, argT, frzT, frzOf, e, e1, backL, lentOf, lentAt, borS, indep, indepA, indepO, backC, imm, List.mapIdx, List.mapIdx.go, List.range, List.range.loop]
theorem u_draw (ns : List Int) (vs : List T) (hv : vs.length < 100) (k : Nat) (a b : Int) (ha : 0 ≤ a) (x3 x5 x6 x7 : Option T) : ∃ v t, 0 ≤ v ∧ v < 61 ∧
    g_law_2_2 [some (.scr ns), some (.lst vs), some (tI k), x3, some (.lst [tI a, tI b]), x5, x6, x7] = .nx [some (.scr ns), some (.lst (vs ++ [tI v])), some (tI k), x3, t, x5, x6, x7] := by
  obtain ⟨w, a1, b1, h1, h2, h3, e1⟩ := draw a b 4 ha (by omega) (by omega)
  have hm : ∃ m : Int, 0 < m ∧ m ≤ 61 ∧ atI [tI 31, tI 31, tI 31, tI 61] w = some (tI m) := by
    have : w = 0 ∨ w = 1 ∨ w = 2 ∨ w = 3 := by omega
    rcases this with rfl | rfl | rfl | rfl
    · exact ⟨31, by omega, by omega, rfl⟩
    · exact ⟨31, by omega, by omega, rfl⟩
    · exact ⟨31, by omega, by omega, rfl⟩
    · exact ⟨61, by omega, by omega, rfl⟩
  obtain ⟨m, m1, m2, e2⟩ := hm
  obtain ⟨v, a2, b2, h4, h5, h6, e3⟩ := draw a1 b1 m h3 m1 (by omega)
  refine ⟨v, some (.lst [tI a2, tI b2]), h4, by omega, ?_⟩
  have l1 : ∀ g, lendC [.nm 4, .val g] [true, false] = true := fun _ => rfl
  have l2 : ∀ x y, lendC [.nm 4, .con x y] [true, false] = true := fun _ _ => rfl
  have hz : vs.length < 16777216 := by omega
  simp [g_law_2_2, sDrop, Out.s, Out.bind, gMut, gUser, gOs, runs, fins, Opd.run, Opd.vg, Opd.lt, Opd.safe, Opd.still, isD, getS, setS, oIx, gIx, gLst, kLst, kP, kk2, kIxA, kIx, argT, frzT, frzOf, e1, e2, e3, l1, l2, backL, lentOf, lentAt, borS, indep, indepA, indepO, backC, imm, mApp, hz, sizeLine_eq, List.mapIdx, List.mapIdx.go, List.range, List.range.loop]
/-! loops -/
theorem loopN_inv {item : Nat → Rho → Option T} {fin : Rho → Bool} {tg : T → Rho → Option Rho} {body : SG} (P : Nat → Rho → Prop) (N : Nat) (step : ∀ k ρ, k < N → P k ρ → ∃ t ρ1 ρ2, item k ρ = some t ∧ tg t ρ = some ρ1 ∧ (body ρ1 = .nx ρ2 ∨ body ρ1 = .ct ρ2) ∧ P (k + 1) ρ2) (hf : ∀ ρ, P N ρ → fin ρ = true) :
    ∀ n k ρ, k + n = N → P k ρ → ∃ ρ', loopN item fin tg body n k ρ = .nx ρ' ∧ P N ρ'
  | 0, k, ρ, h, p => by
    have : k = N := by omega
    subst this
    exact ⟨ρ, by simp [loopN, hf ρ p], p⟩
  | n + 1, k, ρ, h, p => by
    obtain ⟨t, ρ1, ρ2, h1, h2, h3, h4⟩ := step k ρ (by omega) p
    obtain ⟨ρ', e, p'⟩ := loopN_inv P N step hf n (k + 1) ρ2 (by omega) h4
    refine ⟨ρ', ?_, p'⟩
    rcases h3 with h3 | h3 <;> simp [loopN, h1, h2, h3, e]
theorem lcN_inv {item : Nat → Rho → Option T} {fin : Rho → Bool} {tg : T → Rho → Option Rho} {vs : List Nat} {test : G Bool} {elt : G T} (P : Nat → List T → Rho → Prop) (N : Nat) (hN : N < 100000) (step : ∀ k acc ρ, k < N → P k acc ρ → ∃ t ρ1 b ρ2, item k ρ = some t ∧ tg t ρ = some ρ1 ∧ test ρ1 = .ok b ρ2 ∧ (b = true → ∃ y ρ3, elt ρ2 = .ok y ρ3 ∧ P (k + 1) (acc ++ [y]) (wipeR ρ3 vs)) ∧ (b = false → P (k + 1) acc (wipeR ρ2 vs)))
    (hl : ∀ k acc ρ, P k acc ρ → acc.length ≤ k) (hf : ∀ acc ρ, P N acc ρ → fin ρ = true) : ∀ n k acc ρ, k + n = N → P k acc ρ → ∃ ts ρ', lcN item fin tg vs test elt n k acc ρ = some (ts, ρ') ∧ P N ts ρ'
  | 0, k, acc, ρ, h, p => by
    have : k = N := by omega
    subst this
    exact ⟨acc, ρ, by simp [lcN, hf acc ρ p], p⟩
  | n + 1, k, acc, ρ, h, p => by
    obtain ⟨t, ρ1, b, ρ2, h1, h2, h3, h4, h5⟩ := step k acc ρ (by omega) p
    have hz : acc.length < sizeLine := by
      have := hl k acc ρ p
      rw [sizeLine_eq]; omega
    cases b with
    | true =>
      obtain ⟨y, ρ3, e1, p2⟩ := h4 rfl
      obtain ⟨ts, ρ', e, p'⟩ := lcN_inv P N hN step hl hf n (k + 1) _ _ (by omega) p2
      exact ⟨ts, ρ', by simp [lcN, h1, h2, h3, e1, hz, e], p'⟩
    | false =>
      obtain ⟨ts, ρ', e, p'⟩ := lcN_inv P N hN step hl hf n (k + 1) _ _ (by omega) (h5 rfl)
      exact ⟨ts, ρ', by simp [lcN, h1, h2, h3, e], p'⟩
theorem law_1 (ns : List Int) : g_law_1 [some (.scr ns), none, none, none, none, none, none, none] = .nx [some (.scr ns), some (.lst [tI 0, tI 1, tI 2]), none, none, none, none, none, none] := by
  simp [g_law_1, sSet, Out.s, Out.bind, gOs, runs, fins, Opd.run, Opd.vg, Opd.safe, gLst, kLst, setS, sizeLine_eq]
def Small (vs : List T) : Prop := vs.length < 100 ∧ ∀ t, t ∈ vs → ∃ i : Int, 0 ≤ i ∧ i < 61 ∧ t = tI i
theorem law_2 (ns : List Int) (hn : ns.length ≤ 63) : ∃ vs x2 x4, Small vs ∧ g_law_2 [some (.scr ns), some (.lst [tI 0, tI 1, tI 2]), none, none, none, none, none, none] = .nx [some (.scr ns), some (.lst vs), x2, none, x4, none, none, none] := by
  have hmax : ∃ n : Nat, n ≤ 12 ∧ (if (if (12 : Int) < (ns.length : Int) then (12 : Int) else (ns.length : Int)) > 3 then (if (12 : Int) < (ns.length : Int) then (12 : Int) else (ns.length : Int)) else 3) = (n : Int) := by
    refine ⟨(if (if (12 : Int) < (ns.length : Int) then (12 : Int) else (ns.length : Int)) > 3 then (if (12 : Int) < (ns.length : Int) then (12 : Int) else (ns.length : Int)) else 3).toNat, ?_, ?_⟩
    · split <;> split <;> omega
    · split <;> split <;> omega
  obtain ⟨n, hn12, en⟩ := hmax
  obtain ⟨ρ', e, p⟩ := loopN_inv (item := (rng 0 n).item) (fin := (rng 0 n).fin) (tg := setS 2) (body := sSeq g_law_2_1 g_law_2_2) (fun k ρ => ∃ vs x2 x4, Small vs ∧ vs.length ≤ 3 + k ∧ ρ = [some (.scr ns), some (.lst vs), x2, none, x4, none, none, none]) n
    (fun k ρ hk h => by
      obtain ⟨vs, x2, x4, hs, hl, rfl⟩ := h
      obtain ⟨a, b, ha, e1⟩ := u_tape ns k (some (.lst vs)) none x4 none none none
      obtain ⟨v, t, h1, h2, e2⟩ := u_draw ns vs hs.1 k a b ha none none none none
      refine ⟨tI k, _, _, by simp [rng], by simp [setS]; rfl, .inl ?_, vs ++ [tI v], some (tI k), t, ⟨by simp; omega, fun u hu => ?_⟩, by simp; omega, rfl⟩
      · simp [sSeq, e1, e2]
      · rcases List.mem_append.mp hu with hu | hu
        · exact hs.2 u hu
        · simp at hu; exact ⟨v, h1, h2, hu⟩)
    (fun _ _ => rfl) n 0 [some (.scr ns), some (.lst [tI 0, tI 1, tI 2]), none, none, none, none, none, none] (by omega) ⟨[tI 0, tI 1, tI 2], none, none, ⟨by simp, fun t ht => by
      simp at ht
      rcases ht with rfl | rfl | rfl
      · exact ⟨0, by omega, by omega, rfl⟩
      · exact ⟨1, by omega, by omega, rfl⟩
      · exact ⟨2, by omega, by omega, rfl⟩⟩, by simp, rfl⟩
  obtain ⟨vs, x2, x4, hs, _, rfl⟩ := p
  refine ⟨vs, x2, x4, hs, ?_⟩
  have in1 : in62 (n : Int) = true := by simp [in62]; omega
  have en2 : (if 3 < (if (12 : Int) < (ns.length : Int) then (12 : Int) else (ns.length : Int)) then (if (12 : Int) < (ns.length : Int) then (12 : Int) else (ns.length : Int)) else 3) = (n : Int) := en
  have dj : disj (rng 0 n).ls [2, 4] = true := rfl
  have rn : (rng 0 n).n = n := rfl
  simp [g_law_2, sFor, Out.s, Out.bind, gOs, runs, fins, Opd.run, Opd.vg, Opd.safe, Opd.still, getS, gCall, kP, kk1, kk2, kMax2, kMin2, kI2, kLenA, kLen, en2, kRng1, in1, dj, rn, e]
theorem whole (i : Int) : fn_law_whole [tI i] = .ret (.d (.bool true)) [some (tI i)] := by
  simp [fn_law_whole, fnOf, g_law_whole, g_law_whole_1, sRet, Out.s, Out.bind, gAndV, gTest, gP1, kP, kk1, gOs, runs, fins, Opd.run, Opd.vg, Opd.safe, Opd.still, getS, kIsi, tyOf, subTy, kNot, kTru, backS]
/-! robin -/
def pT (p : PI2) : T := .d (pD p)
def mk2 (a b : Int) : PI2 := (if b < a then b else a, if b > a then b else a)
theorem rob_pair (m w t k : Int) (hw : 1 < w) (rs ps : List T) (hp : ps.length < 1000) (x6 x7 x8 : Option T) :
    g_robin_4_2_1 [some (tI m), some (tI w), some (.lst rs), some (tI t), some (.lst ps), some (tI k), x6, x7, x8] = .nx [some (tI m), some (tI w), some (.lst rs), some (tI t), some (.lst ps), some (tI k), some (tI ((t + k) % (w - 1))), some (tI ((t - k) % (w - 1))), x8] := by
  have h : (0 : Int) < w - 1 := by omega
  simp [g_robin_4_2_1, sPar, Out.s, Out.bind, gOs, runs, fins, Opd.run, Opd.vg, Opd.safe, Opd.still, getS, gP2, kP, kk2, kAdd, kAddI, kSubI, kModI, kI2, setRs, setS, h, hw]
theorem rob_app (m w t k a b : Int) (rs ps : List T) (hp : ps.length < 1000) (x8 : Option T) :
    g_robin_4_2_2 [some (tI m), some (tI w), some (.lst rs), some (tI t), some (.lst ps), some (tI k), some (tI a), some (tI b), x8] = .nx [some (tI m), some (tI w), some (.lst rs), some (tI t), some (.lst (ps ++ [pT (mk2 a b)])), some (tI k), some (tI a), some (tI b), x8] := by
  have hz : ps.length < 16777216 := by omega
  simp [g_robin_4_2_2, sDrop, Out.s, Out.bind, gMut, gOs, runs, fins, Opd.run, Opd.vg, Opd.safe, Opd.still, getS, gTup, kTup, mkTup, asDs, gCall, kP, kk2, kMin2, kMax2, kI2, mApp, hz, sizeLine_eq, pT, pD, mk2]
theorem rob_1 (m w t : Int) (rs : List T) (x4 x5 x6 x7 x8 : Option T) :
    g_robin_4_1 [some (tI m), some (tI w), some (.lst rs), some (tI t), x4, x5, x6, x7, x8] = .nx [some (tI m), some (tI w), some (.lst rs), some (tI t), some (.lst [pT (t, w - 1)]), x5, x6, x7, x8] := by
  simp [g_robin_4_1, sSet, Out.s, Out.bind, gLst, kLst, gOs, runs, fins, Opd.run, Opd.vg, Opd.safe, Opd.still, getS, setS, gVar, gTup, kTup, mkTup, asDs, gP2, kP, kk2, kSubI, kI2, sizeLine_eq, pT, pD]
def prs (w t : Int) (n : Nat) : List PI2 := (t, w - 1) :: (List.range n).map fun (j : Nat) => mk2 ((t + (1 + (j : Int))) % (w - 1)) ((t - (1 + (j : Int))) % (w - 1))
theorem rob_2 (m w t : Int) (hw : 1 < w) (hw2 : w < 1000) (rs : List T) (x5 x6 x7 x8 : Option T) : ∃ y5 y6 y7,
    g_robin_4_2 [some (tI m), some (tI w), some (.lst rs), some (tI t), some (.lst [pT (t, w - 1)]), x5, x6, x7, x8] = .nx [some (tI m), some (tI w), some (.lst rs), some (tI t), some (.lst ((prs w t ((w / 2).toNat - 1)).map pT)), y5, y6, y7, x8] := by
  obtain ⟨ρ', e, p⟩ := loopN_inv (item := (rng 1 ((w / 2).toNat - 1)).item) (fin := (rng 1 ((w / 2).toNat - 1)).fin) (tg := setS 5) (body := sSeq g_robin_4_2_1 g_robin_4_2_2) (fun k ρ => ∃ y5 y6 y7, ρ = [some (tI m), some (tI w), some (.lst rs), some (tI t), some (.lst ((prs w t k).map pT)), y5, y6, y7, x8]) ((w / 2).toNat - 1)
    (fun k ρ hk h => by
      obtain ⟨y5, y6, y7, rfl⟩ := h
      have hl : ((prs w t k).map pT).length < 1000 := by simp [prs]; omega
      refine ⟨tI (1 + (k : Int)), _, _, by simp [rng], by simp [setS]; rfl, .inl ?_, some (tI (1 + (k : Int))), some (tI ((t + (1 + (k : Int))) % (w - 1))), some (tI ((t - (1 + (k : Int))) % (w - 1))), rfl⟩
      simp only [sSeq, rob_pair m w t _ hw rs _ hl]
      rw [rob_app m w t _ _ _ rs _ hl]
      simp [prs, List.range_succ])
    (fun _ _ => rfl) ((w / 2).toNat - 1) 0 [some (tI m), some (tI w), some (.lst rs), some (tI t), some (.lst [pT (t, w - 1)]), x5, x6, x7, x8] (by omega) ⟨x5, x6, x7, by simp [prs]⟩
  obtain ⟨y5, y6, y7, rfl⟩ := p
  refine ⟨y5, y6, y7, ?_⟩
  have in1 : in62 1 = true := by simp [in62]
  have in2 : in62 (w / 2) = true := by simp [in62]; omega
  have dj : disj (rng 1 ((w / 2).toNat - 1)).ls [5, 6, 7] = true := rfl
  have rn : (rng 1 ((w / 2).toNat - 1)).n = ((w / 2).toNat - 1) := rfl
  simp [g_robin_4_2, sFor, Out.s, Out.bind, gOs, runs, fins, Opd.run, Opd.vg, Opd.safe, Opd.still, getS, gP2, kP, kk2, kDivI, kI2, kRng2, in1, in2, dj, rn, e]
/-- the pairs of a round that are told -/
def row (m w t : Int) : List PI2 := sortP ((prs w t ((w / 2).toNat - 1)).filter fun p => decide (p.2 < m))
theorem asPairs_map (ps : List PI2) : asPairs (ps.map pD) = some ps := by
  induction ps with
  | nil => rfl
  | cons p r ih => simp [asPairs, pD] at ih ⊢; exact ih
theorem pT_map (ps : List PI2) : ps.map pT = (ps.map pD).map T.d := by simp [pT]
theorem kSort_pT (ps : List PI2) : kSort (.lst (ps.map pT)) = some (.lst ((sortP ps).map pT)) := by
  have h1 : listOf (.lst (ps.map pT)) = some (ps.map pD) := by rw [pT_map]; exact asDs_map _
  cases ps with
  | nil => rfl
  | cons p r =>
    have h2 : asInts ((p :: r).map pD) = none := rfl
    have h3 : kSortI (.lst ((p :: r).map pT)) = none := by simp only [kSortI, h1, Option.bind_some, h2, Option.map_none]
    have h4 : kSortP (.lst ((p :: r).map pT)) = some (.lst ((sortP (p :: r)).map pT)) := by
      unfold kSortP
      rw [h1]
      simp only [Option.bind_some, asPairs_map, Option.map_some, pT_map]
    simp only [kSort, h3, h4, Option.none_or]
def bk : Option T → Option T
  | some (.d x) => some (.d x)
  | _ => none
theorem rob_lc (m w t : Int) (rs : List T) (ps : List PI2) (hp : ps.length < 1000) (x5 x6 x7 x8 : Option T) :
    ∃ x8', gLc [8] (gSeq (.nm 4)) (setS 8) (gTest (gP2 kLtI (oIx kIxA (.nm 8) (.con (.int 1) (.int 1))) (.nm 0))) (Opd.vg (.nm 8)) [some (tI m), some (tI w), some (.lst rs), some (tI t), some (.lst (ps.map pT)), x5, x6, x7, x8] = .ok (.lst ((ps.filter fun p => decide (p.2 < m)).map pT)) [some (tI m), some (tI w), some (.lst rs), some (tI t), some (.lst (ps.map pT)), x5, x6, x7, x8'] := by
  have hl : listOf (.lst (ps.map pT)) = some (ps.map pD) := by rw [pT_map]; exact asDs_map _
  let q : Src := ⟨some 4, true, ps.map pT⟩
  have hs : slotSrc 4 (.lst (ps.map pT)) = some q := by simp [slotSrc, hl, q, pT]
  have it : ∀ (k : Nat) (z : Option T), k < ps.length → q.it.item k [some (tI m), some (tI w), some (.lst rs), some (tI t), some (.lst (ps.map pT)), x5, x6, x7, z] = (ps[k]?).map pT := fun k z h => by
    simp [Src.it, Src.item, Src.look, q, getS, seqK, hl]
    rfl
  have fn : ∀ z : Option T, q.it.fin [some (tI m), some (tI w), some (.lst rs), some (tI t), some (.lst (ps.map pT)), x5, x6, x7, z] = true := fun z => by
    simp [Src.it, Src.fin, Src.look, q, getS, seqK, hl]
  obtain ⟨us, ρ', e, p⟩ := lcN_inv (item := q.it.item) (fin := q.it.fin) (tg := setS 8) (vs := [8]) (test := gTest (gP2 kLtI (oIx kIxA (.nm 8) (.con (.int 1) (.int 1))) (.nm 0))) (elt := Opd.vg (.nm 8))
    (fun k acc ρ => acc = ((ps.take k).filter fun p => decide (p.2 < m)).map pT ∧ ρ = [some (tI m), some (tI w), some (.lst rs), some (tI t), some (.lst (ps.map pT)), x5, x6, x7, none]) ps.length (by omega)
    (fun k acc ρ hk h => by
      obtain ⟨rfl, rfl⟩ := h
      have tk : ps.take (k + 1) = ps.take k ++ [ps[k]] := by rw [List.take_add_one]; simp [hk]
      let r1 : Rho := [some (tI m), some (tI w), some (.lst rs), some (tI t), some (.lst (ps.map pT)), x5, x6, x7, some (pT ps[k])]
      refine ⟨pT ps[k], r1, decide ((ps[k]).2 < m), r1, by rw [it k none hk]; simp [hk], by simp [setS, r1], ?_, fun hb => ⟨pT ps[k], r1, ?_, ?_, by simp [wipeR, r1]⟩, fun hb => ⟨?_, by simp [wipeR, r1]⟩⟩
      · simp [r1, gTest, gP2, kP, kk2, gOs, runs, fins, Opd.run, Opd.safe, Opd.still, Out.bind, isD, getS, oIx, gIx, kIxA, kIxK, kIx, kLtI, kI2, pT, pD, atI, ixN]
      · simp [r1, Opd.vg, gVar, getS, pT]
      · rw [tk, List.filter_append, List.map_append, show List.filter (fun p => decide (p.2 < m)) [ps[k]] = [ps[k]] from by simp [List.filter, hb]]; rfl
      · rw [tk, List.filter_append, List.map_append, show List.filter (fun p => decide (p.2 < m)) [ps[k]] = [] from by simp [List.filter, hb]]; simp)
    (fun k acc ρ h => by rw [h.1]; simp; exact Nat.le_trans (List.length_filter_le _ _) (by simp; omega)) (fun acc ρ h => by rw [h.2]; exact fn none) ps.length 0 [] [some (tI m), some (tI w), some (.lst rs), some (tI t), some (.lst (ps.map pT)), x5, x6, x7, none] (by omega) ⟨by simp, rfl⟩
  obtain ⟨rfl, rfl⟩ := p
  have dj : disj q.it.ls [8] = true := rfl
  have qn : q.it.n = ps.length := by simp [Src.it, q]
  rw [List.take_length] at e
  refine ⟨bk x8, ?_⟩
  simp [gLc, gSeq, Opd.src, Out.bind, getS, hs, dj, qn, wipeR, e, backR, List.mapIdx, List.mapIdx.go, bk]
  all_goals (rcases x8 with _ | t <;> first | rfl | (cases t <;> rfl))
theorem rob_3 (m w t : Int) (rs : List T) (hr : rs.length < 1000) (ps : List PI2) (hp : ps.length < 1000) (x5 x6 x7 x8 : Option T) :
    ∃ x8', g_robin_4_3 [some (tI m), some (tI w), some (.lst rs), some (tI t), some (.lst (ps.map pT)), x5, x6, x7, x8] = .nx [some (tI m), some (tI w), some (.lst (rs ++ [.lst ((sortP (ps.filter fun p => decide (p.2 < m))).map pT)])), some (tI t), some (.lst (ps.map pT)), x5, x6, x7, x8'] := by
  obtain ⟨x8', e⟩ := rob_lc m w t rs ps hp x5 x6 x7 x8
  have hz : rs.length < 16777216 := by omega
  simp only [Opd.vg] at e
  refine ⟨x8', ?_⟩
  simp [g_robin_4_3, sDrop, Out.s, Out.bind, gMut, gOs, runs, fins, Opd.run, Opd.safe, Opd.still, getS, gCall, kP, kk1, e, kSort_pT, mApp, hz, sizeLine_eq, Opd.vg]
def rows (m w : Int) (n : Nat) : List (List PI2) := (List.range n).map fun (j : Nat) => row m w (j : Int)
def rT (R : List (List PI2)) : List T := R.map fun r => .lst (r.map pT)
theorem rob_4 (m w : Int) (hw : 1 < w) (hw2 : w < 100) : ∃ y3 y4 y5 y6 y7 y8, g_robin_4 [some (tI m), some (tI w), some (.lst []), none, none, none, none, none, none] = .nx [some (tI m), some (tI w), some (.lst (rT (rows m w (w - 1).toNat))), y3, y4, y5, y6, y7, y8] := by
  obtain ⟨ρ', e, p⟩ := loopN_inv (item := (rng 0 (w - 1).toNat).item) (fin := (rng 0 (w - 1).toNat).fin) (tg := setS 3) (body := sSeq g_robin_4_1 (sSeq g_robin_4_2 g_robin_4_3)) (fun k ρ => ∃ y3 y4 y5 y6 y7 y8, ρ = [some (tI m), some (tI w), some (.lst (rT (rows m w k))), y3, y4, y5, y6, y7, y8]) (w - 1).toNat
    (fun k ρ hk h => by
      obtain ⟨y3, y4, y5, y6, y7, y8, rfl⟩ := h
      obtain ⟨z5, z6, z7, e2⟩ := rob_2 m w k hw (by omega) (rT (rows m w k)) y5 y6 y7 y8
      have hl : (rT (rows m w k)).length < 1000 := by simp [rT, rows]; omega
      obtain ⟨z8, e3⟩ := rob_3 m w k (rT (rows m w k)) hl (prs w k ((w / 2).toNat - 1)) (by simp [prs]; omega) z5 z6 z7 y8
      refine ⟨tI k, [some (tI m), some (tI w), some (.lst (rT (rows m w k))), some (tI k), y4, y5, y6, y7, y8], _, by simp [rng], by simp [setS], .inl ?_, some (tI k), some (.lst ((prs w k ((w / 2).toNat - 1)).map pT)), z5, z6, z7, z8, rfl⟩
      simp only [sSeq, rob_1, e2, e3]
      simp [rT, rows, List.range_succ, row])
    (fun _ _ => rfl) (w - 1).toNat 0 [some (tI m), some (tI w), some (.lst []), none, none, none, none, none, none] (by omega) ⟨none, none, none, none, none, none, by simp [rT, rows]⟩
  obtain ⟨y3, y4, y5, y6, y7, y8, rfl⟩ := p
  refine ⟨y3, y4, y5, y6, y7, y8, ?_⟩
  have in1 : in62 (w - 1) = true := by simp [in62]; omega
  have dj : disj (rng 0 (w - 1).toNat).ls [3, 4, 5, 6, 7] = true := rfl
  have rn : (rng 0 (w - 1).toNat).n = (w - 1).toNat := rfl
  have tn : (w - 1).toNat = w.toNat - 1 := by omega
  rw [tn] at dj rn e ⊢
  simp [g_robin_4, sFor, Out.s, Out.bind, gOs, runs, fins, Opd.run, Opd.vg, Opd.safe, Opd.still, getS, gP2, kP, kk2, kSubI, kI2, kRng1, in1, dj, rn, e]
theorem robin_ge (m : Int) (h2 : 2 ≤ m) (h3 : m < 61) : fn_robin [tI m] = .ret (.lst (rT (rows m (m + m % 2) (m + m % 2 - 1).toNat))) [some (tI m)] := by
  obtain ⟨y3, y4, y5, y6, y7, y8, e⟩ := rob_4 m (m + m % 2) (by omega) (by omega)
  have c : ¬ m < 2 := by omega
  have s1 : g_robin_1 [some (tI m), none, none, none, none, none, none, none, none] = .nx [some (tI m), none, none, none, none, none, none, none, none] := by
    simp [g_robin_1, sIf, sPass, Out.s, Out.bind, gTest, gOs, runs, fins, Opd.run, Opd.safe, Opd.still, getS, gP2, kP, kk2, kLtI, kI2, c]
  have s2 : g_robin_2 [some (tI m), none, none, none, none, none, none, none, none] = .nx [some (tI m), some (tI (m + m % 2)), none, none, none, none, none, none, none] := by
    simp [g_robin_2, sSet, Out.s, Out.bind, gOs, runs, fins, Opd.run, Opd.vg, Opd.safe, Opd.still, getS, setS, gP2, kP, kk2, kAdd, kAddI, kModI, kI2]
  have s3 : ∀ a b : T, g_robin_3 [some a, some b, none, none, none, none, none, none, none] = .nx [some a, some b, some (.lst []), none, none, none, none, none, none] := fun a b => by
    simp [g_robin_3, sSet, Out.s, Out.bind, gLst, kLst, gOs, runs, fins, Opd.vg, setS]
  have s5 : ∀ (a b : T) (l : List T), g_robin_5 [some a, some b, some (.lst l), y3, y4, y5, y6, y7, y8] = .rt (.lst l) [some a, some b, none, y3, y4, y5, y6, y7, y8] := fun a b l => by
    simp [g_robin_5, sRet, Out.s, Opd.vg, gVar, getS]
  have g : g_robin [some (tI m), none, none, none, none, none, none, none, none] = .rt (.lst (rT (rows m (m + m % 2) (m + m % 2 - 1).toNat))) [some (tI m), some (tI (m + m % 2)), none, y3, y4, y5, y6, y7, y8] := by
    simp only [g_robin, sSeq, s1, s2, s3, e, s5]
  simp only [fn_robin, fnOf, List.map_cons, List.map_nil, List.cons_append, List.nil_append]
  rw [show (List.replicate (9 - 1) (none : Option T)) = [none, none, none, none, none, none, none, none] from rfl, g]
  rfl
theorem robin_lt (m : Int) (h : m < 2) : fn_robin [tI m] = .ret (.lst []) [some (tI m)] := by
  simp [fn_robin, fnOf, g_robin, g_robin_1, g_robin_1_t_1, sSeq, sIf, sRet, Out.s, Out.bind, gTest, gOs, runs, fins, Opd.run, Opd.vg, Opd.safe, Opd.still, getS, gP2, kP, kk2, kLtI, kI2, gLst, kLst, backS, h]
end K66
end Hu
set_option maxRecDepth 1000000
set_option linter.all false
namespace Hu
namespace K66
open PySem L2
mutual
theorem eqv_refl : ∀ x : D, noDict x = true → PyData.eqv x x = true
  | .none, _ => rfl
  | .bool _, _ | .int _, _ | .str _, _ => by simp [PyData.eqv]
  | .list xs, h => by simp only [PyData.eqv]; exact eqvAll_refl xs (by simpa [noDict] using h)
  | .tuple xs, h => by simp only [PyData.eqv]; exact eqvAll_refl xs (by simpa [noDict] using h)
  | .dict _, h => by simp [noDict] at h
theorem eqvAll_refl : ∀ xs : List D, noDictA xs = true → PyData.eqvAll xs xs = true
  | [], _ => rfl
  | x :: xs, h => by
    simp only [noDictA, Bool.and_eq_true] at h
    simp only [PyData.eqvAll, Bool.and_eq_true]
    exact ⟨eqv_refl x h.1, eqvAll_refl xs h.2⟩
end
theorem noDict_row (r : List PI2) : noDictA (r.map pD) = true := by
  induction r with
  | nil => rfl
  | cons p r ih => simp [noDictA, noDict, pD] at ih ⊢; exact ih
theorem ok_int (i : Int) : okD (.int i) = true := by
  simp [okD, SeqAt.shaped, PyData.canLay0, PyData.depth]
theorem lay_row (r : List PI2) : PyData.canLayAll0 (r.map pD) = true := by
  induction r with
  | nil => rfl
  | cons p r ih => simp [PyData.canLayAll0, PyData.canLay0, pD] at ih ⊢; exact ih
theorem dep_row (r : List PI2) : PyData.depthAll (r.map pD) ≤ 1 := by
  induction r with
  | nil => simp [PyData.depthAll]
  | cons p r ih => simp [PyData.depthAll, PyData.depth, pD] at ih ⊢; omega
theorem ok_row (r : List PI2) : okD (.list (r.map pD)) = true := by
  have h1 := lay_row r
  have h2 := dep_row r
  unfold okD SeqAt.shaped
  rw [Bool.and_eq_true, decide_eq_true_eq]
  refine ⟨by simp only [PyData.canLay0]; exact h1, ?_⟩
  simp only [PyData.depth]; omega
theorem eq_row (r : List PI2) : PyData.eqv (.list (r.map pD)) (.list (r.map pD)) = true := eqv_refl _ (by simpa [noDict] using noDict_row r)
theorem datsOf_pT (r : List PI2) : datsOf (r.map pT) = some (r.map pD) := by rw [pT_map]; exact datsOf_map _
def rowT (r : List PI2) : T := .d (.list (r.map pD))
def fD (R : List (List PI2)) : T := .d (.list (R.map fun r => .list (r.map pD)))
def mT (ks : List PI2) : T := .dT (ks.map fun p => ([Sum.inl p.1, Sum.inl p.2], T.d (.bool true)))
def bT (ns : List Int) : T := .lst ((ns.map PyData.int).map T.d)
def flat2 (r : List PI2) : List Int := r.flatMap fun p => [p.1, p.2]
theorem kSort_row (r : List PI2) (h : sortP r = r) : ∃ us, kSort (rowT r) = some (.lst us) ∧ datsOf us = some (r.map pD) := by
  cases r with
  | nil => exact ⟨[], rfl, rfl⟩
  | cons p r =>
    have h2 : asInts ((p :: r).map pD) = none := rfl
    have h3 : kSortI (rowT (p :: r)) = none := by simp only [kSortI, rowT, listOf, Option.bind_some, h2, Option.map_none]
    have h4 : kSortP (rowT (p :: r)) = some (.lst (((p :: r).map pD).map T.d)) := by
      unfold kSortP rowT
      simp only [listOf, Option.bind_some, asPairs_map, Option.map_some, h]
    exact ⟨_, by simp only [kSort, h3, h4, Option.none_or], datsOf_map _⟩
/-- a row is looked at -/
theorem rr_41 (m : Int) (f : T) (x2 x3 x5 x6 x7 : Option T) (r : List PI2) (h1 : (r.length : Int) = m / 2) (h2 : sortP r = r) :
    g_law_rounds_right_4_1 [some (tI m), some f, x2, x3, some (rowT r), x5, x6, x7] = .nx [some (tI m), some f, x2, x3, some (rowT r), x5, x6, x7] := by
  obtain ⟨us, e, e2⟩ := kSort_row r h2
  have e3 : PyData.eqv (.int (m / 2)) (.int (m / 2)) = true := by simp [PyData.eqv]
  simp only [rowT] at e
  have e4 := eq_row r
  have e5 := ok_row r
  simp [g_law_rounds_right_4_1, sIf, sPass, Out.s, Out.bind, gOrB, gNotB, gTru, gTest, gP1, gP2, gCall, kP, kB, kk1, kk2, gOs, runs, fins, Opd.run, Opd.vg, Opd.safe, Opd.still, isD, getS, kIsi, tyOf, subTy, kTru, kkT, kLenA, kLen, kDivI, kI2, kEqv, datOf, rowT, h1, ok_int, e, e2, e3, e4, e5]
theorem rr_42 (a b c d e : Option T) (x5 x6 x7 : Option T) : g_law_rounds_right_4_2 [a, b, c, d, e, x5, x6, x7] = .nx [a, b, c, d, e, some (bT []), x6, x7] := by
  simp [g_law_rounds_right_4_2, sSet, Out.s, Out.bind, gLst, kLst, gOs, runs, fins, Opd.vg, setS, bT]
/-- a pair's numbers are whole -/
theorem rr_all (a b c d e f : Option T) (p : PI2) (x7 : Option T) : ∃ y7, gLc [7] (gSeq (.nm 6)) (setS 7) gYes (Opd.vg (.val (gUser fn_law_whole [false] ([(.nm 7)].map Opd.lt)))) [a, b, c, d, e, f, some (pT p), x7] = .ok (.lst [.d (.bool true), .d (.bool true)]) [a, b, c, d, e, f, some (pT p), y7] := by
  let q : Src := ⟨some 6, false, [tI p.1, tI p.2]⟩
  have hs : slotSrc 6 (pT p) = some q := by simp [slotSrc, listOf, tupOf, pT, pD, q]
  have l1 : lendC [.nm 7] [false] = true := rfl
  refine ⟨bk x7, ?_⟩
  simp [gLc, gSeq, Opd.src, Out.bind, getS, hs, q, Src.it, disj, lcN, Src.item, Src.fin, Src.look, seqK, tupOf, pT, pD, setS, wipeR, gYes, Opd.vg, gUser, gOs, runs, fins, Opd.run, Opd.lt, Opd.safe, Opd.still, argT, frzT, frzOf, whole, l1, backL, lentOf, lentAt, borS, indep, indepA, indepO, backC, imm, sizeLine_eq, List.mapIdx, List.mapIdx.go, List.range, List.range.loop, backR, bk]
  cases x7 with
  | none => rfl
  | some t => cases t <;> rfl
theorem rr_431 (a b c d e f : Option T) (p : PI2) (x7 : Option T) : ∃ y7, g_law_rounds_right_4_3_1 [a, b, c, d, e, f, some (pT p), x7] = .nx [a, b, c, d, e, f, some (pT p), y7] := by
  obtain ⟨y7, e1⟩ := rr_all a b c d e f p x7
  have e3 : PyData.eqv (.int 2) (.int 2) = true := by simp [PyData.eqv]
  refine ⟨y7, ?_⟩
  simp only [Opd.vg, pT, pD, List.map_cons, List.map_nil] at e1
  simp [g_law_rounds_right_4_3_1, sIf, sPass, Out.s, Out.bind, gOrB, gNotB, gTru, gTest, gP1, gP2, gCall, kP, kB, kk1, kk2, gOs, runs, fins, Opd.run, Opd.vg, Opd.safe, Opd.still, isD, getS, kIsi, tyOf, subTy, kTru, kkT, kLenA, kLen, kEqv, datOf, pT, pD, ok_int, e3, kAll, listOf, asDs, asBools, e1]
theorem find_no (ks : List PI2) (p : PI2) (h : p ∉ ks) : ((ks.map fun p => (([Sum.inl p.1, Sum.inl p.2] : List Key), T.d (.bool true))).find? fun kv => decide (kv.1 = [Sum.inl p.1, Sum.inl p.2])) = none := by
  rw [List.find?_eq_none]
  intro kv hkv
  obtain ⟨q, hq, rfl⟩ := List.mem_map.mp hkv
  simp only [decide_eq_true_eq]
  intro e
  simp at e
  exact h ((Prod.ext e.1 e.2 : q = p) ▸ hq)
theorem rr_432 (m : Int) (b c e f : Option T) (ks : List PI2) (p : PI2) (x7 : Option T) (h0 : 0 ≤ p.1) (h1 : p.1 < p.2) (h2 : p.2 < m) (hn : p ∉ ks) : g_law_rounds_right_4_3_2 [some (tI m), b, c, some (mT ks), e, f, some (pT p), x7] = .nx [some (tI m), b, c, some (mT ks), e, f, some (pT p), x7] := by
  have g : getK (ks.map fun p => (([Sum.inl p.1, Sum.inl p.2] : List Key), T.d (.bool true))) [Sum.inl p.1, Sum.inl p.2] = none := by
    unfold getK; rw [find_no ks p hn]; rfl
  have h3 : 0 < p.2 := by omega
  simp [g_law_rounds_right_4_3_2, sIf, sPass, Out.s, Out.bind, gOrB, gNotB, gChn, gCh, gInt, gTest, gP2, kP, kk2, gOs, runs, fins, Opd.run, Opd.vg, Opd.safe, Opd.still, isD, getS, gVar, oIx, gIx, gPk, kIxA, kIxK, kIx, atI, ixN, pT, pD, h0, h1, h2, h3, kIn, kInF, kInD, kInK, seqOf, listOf, tupOf, datOf, mT, tkeyOf, keysD, keyD, g]
theorem rr_433 (m : Int) (b c e f : Option T) (ks : List PI2) (hk : ks.length < 100000) (p : PI2) (x7 : Option T) (hn : p ∉ ks) : g_law_rounds_right_4_3_3 [some (tI m), b, c, some (mT ks), e, f, some (pT p), x7] = .nx [some (tI m), b, c, some (mT (ks ++ [p])), e, f, some (pT p), x7] := by
  have g : ((ks.map fun p => (([Sum.inl p.1, Sum.inl p.2] : List Key), T.d (.bool true))).any fun kv => decide (kv.1 = [Sum.inl p.1, Sum.inl p.2])) = false := by
    rw [List.any_eq_false]
    intro kv hkv
    have := List.find?_eq_none.mp (find_no ks p hn) kv hkv
    simpa using this
  have hz : ks.length < 16777216 := by omega
  have e1 : putA (T.d (.bool true)) (some (mT ks)) [pT p] = some (mT (ks ++ [p])) := by
    simp only [putA, mT, pT, pD, tkeyOf, keysD, keyD, Option.bind_some, putC, isD, putT, g, List.length_map]
    simp [hz, sizeLine_eq]
  simp [g_law_rounds_right_4_3_3, sPutA, Out.s, Out.bind, gOs, runs, fins, Opd.run, Opd.vg, Opd.safe, getS, e1]
theorem rr_434 (a b c d e : Option T) (ns : List Int) (hn : ns.length < 100000) (p : PI2) (x7 : Option T) : g_law_rounds_right_4_3_4 [a, b, c, d, e, some (bT ns), some (pT p), x7] = .nx [a, b, c, d, e, some (bT (ns ++ [p.1, p.2])), some (pT p), x7] := by
  have hz : ns.length + 2 ≤ 16777216 := by omega
  simp [g_law_rounds_right_4_3_4, sDrop, Out.s, Out.bind, gMut, gOs, runs, fins, Opd.run, Opd.vg, Opd.safe, Opd.still, isD, getS, gCall, kP, kk1, kListOf, seqOf, listOf, tupOf, pT, pD, mExt, asDs, bT, hz, sizeLine_eq]
/-- a list of frozen things in a slot, walked -/
theorem src_slot (i : Nat) (ds : List D) (ρ : Rho) (h : getS ρ i = some (.d (.list ds))) : gSeq (.nm i) ρ = .ok (Src.it ⟨some i, true, ds.map T.d⟩) ρ := by
  have hs : slotSrc i (.d (.list ds)) = some ⟨some i, true, ds.map T.d⟩ := by simp [slotSrc, listOf]
  simp [gSeq, Opd.src, h, hs, Out.bind]
theorem it_item (i : Nat) (ds : List D) (ρ : Rho) (k : Nat) (h : getS ρ i = some (.d (.list ds))) : (Src.it ⟨some i, true, ds.map T.d⟩).item k ρ = (ds[k]?).map T.d := by
  simp [Src.it, Src.item, Src.look, h, seqK, listOf]
theorem it_fin (i : Nat) (ds : List D) (ρ : Rho) (h : getS ρ i = some (.d (.list ds))) : (Src.it ⟨some i, true, ds.map T.d⟩).fin ρ = true := by
  simp [Src.it, Src.fin, Src.look, h, seqK, listOf]
structure GoodRow (m : Int) (r : List PI2) : Prop where
  len : (r.length : Int) = m / 2
  srt : sortP r = r
  ok : ∀ p, p ∈ r → 0 ≤ p.1 ∧ p.1 < p.2 ∧ p.2 < m
  few : r.length < 1000
  uq : (uniqI (flat2 r)).length = 2 * r.length
theorem rr_43 (m : Int) (b c : Option T) (ks : List PI2) (hk : ks.length < 50000) (r : List PI2) (g : GoodRow m r) (nd : (ks ++ r).Nodup) (x6 x7 : Option T) :
    ∃ y6 y7, g_law_rounds_right_4_3 [some (tI m), b, c, some (mT ks), some (rowT r), some (bT []), x6, x7] = .nx [some (tI m), b, c, some (mT (ks ++ r)), some (rowT r), some (bT (flat2 r)), y6, y7] := by
  obtain ⟨ρ', e, p⟩ := loopN_inv (item := (Src.it ⟨some 4, true, (r.map pD).map T.d⟩).item) (fin := (Src.it ⟨some 4, true, (r.map pD).map T.d⟩).fin) (tg := setS 6) (body := sSeq g_law_rounds_right_4_3_1 (sSeq g_law_rounds_right_4_3_2 (sSeq g_law_rounds_right_4_3_3 g_law_rounds_right_4_3_4)))
    (fun k ρ => ∃ y6 y7, ρ = [some (tI m), b, c, some (mT (ks ++ r.take k)), some (rowT r), some (bT (flat2 (r.take k))), y6, y7]) r.length
    (fun k ρ hk2 h => by
      obtain ⟨y6, y7, rfl⟩ := h
      have tk : r.take (k + 1) = r.take k ++ [r[k]] := by rw [List.take_add_one]; simp [hk2]
      obtain ⟨o1, o2, o3⟩ := g.ok r[k] (List.getElem_mem hk2)
      have hn : r[k] ∉ ks ++ r.take k := fun z => by
        have e9 : ks ++ r = (ks ++ r.take k) ++ r[k] :: r.drop (k + 1) := by simp
        rw [e9] at nd
        have := (List.nodup_append.mp nd).2.2 _ z _ List.mem_cons_self
        exact this rfl
      obtain ⟨z7, e1⟩ := rr_431 (some (tI m)) b c (some (mT (ks ++ r.take k))) (some (rowT r)) (some (bT (flat2 (r.take k)))) r[k] y7
      have e2 := rr_432 m b c (some (rowT r)) (some (bT (flat2 (r.take k)))) (ks ++ r.take k) r[k] z7 o1 o2 o3 hn
      have gf := g.few
      have e3 := rr_433 m b c (some (rowT r)) (some (bT (flat2 (r.take k)))) (ks ++ r.take k) (by simp; omega) r[k] z7 hn
      have l2 : ∀ l : List PI2, (flat2 l).length = 2 * l.length := fun l => by
        induction l with
        | nil => rfl
        | cons a l ih => simp [flat2] at ih ⊢; omega
      have e4 := rr_434 (some (tI m)) b c (some (mT (ks ++ r.take k ++ [r[k]]))) (some (rowT r)) (flat2 (r.take k)) (by rw [l2]; simp; omega) r[k] z7
      refine ⟨pT r[k], [some (tI m), b, c, some (mT (ks ++ r.take k)), some (rowT r), some (bT (flat2 (r.take k))), some (pT r[k]), y7], _, ?_, by simp [setS], .inl ?_, some (pT r[k]), z7, rfl⟩
      · rw [it_item 4 (r.map pD) _ k rfl]; simp [hk2, pT]
      · simp only [sSeq, e1, e2, e3, e4]
        have fl : flat2 (r.take k ++ [r[k]]) = flat2 (r.take k) ++ [r[k].1, r[k].2] := by
          unfold flat2; rw [List.flatMap_append]; rfl
        rw [tk, fl, List.append_assoc])
    (fun ρ h => by
      obtain ⟨y6, y7, rfl⟩ := h
      exact it_fin 4 (r.map pD) _ rfl) r.length 0 [some (tI m), b, c, some (mT ks), some (rowT r), some (bT []), x6, x7] (by omega) ⟨x6, x7, by simp [flat2]⟩
  obtain ⟨y6, y7, rfl⟩ := p
  rw [List.take_length] at e
  refine ⟨y6, y7, ?_⟩
  unfold g_law_rounds_right_4_3 sFor
  rw [src_slot 4 (r.map pD) _ rfl]
  have dj : disj (Src.it ⟨some 4, true, (r.map pD).map T.d⟩).ls [6] = true := rfl
  have rn : (Src.it ⟨some 4, true, (r.map pD).map T.d⟩).n = r.length := by simp [Src.it]
  simp only [Out.s, dj, if_true, rn]
  exact e
theorem asInts_map2 (ns : List Int) : asInts (ns.map PyData.int) = some ns := asInts_map ns
theorem rr_44 (a b c d e : Option T) (ns : List Int) (hn : ns.length < 1000) (hu : (uniqI ns).length = ns.length) (x6 x7 : Option T) : g_law_rounds_right_4_4 [a, b, c, d, e, some (bT ns), x6, x7] = .nx [a, b, c, d, e, some (bT ns), x6, x7] := by
  have hs : ns.length + 1 < scanBound := by
    have : (2000 : Nat) ≤ scanBound := by decide +kernel
    omega
  have l1 : listOf (bT ns) = some (ns.map PyData.int) := by unfold bT; exact asDs_map _
  have k1 : kLenSet (bT ns) = some (tI ns.length) := by
    simp only [kLenSet, l1, Option.bind_some, asInts_map2, hs, if_true, hu]
  have k2 : kLenA (bT ns) = some (tI ns.length) := by simp [kLenA, kLen, bT]
  have k3 : kEqv true (tI ns.length) (tI ns.length) = some (.d (.bool false)) := by simp [kEqv, datOf, ok_int, PyData.eqv]
  simp [g_law_rounds_right_4_4, sIf, sPass, Out.s, Out.bind, gTest, gP2, gCall, kP, kk1, kk2, gOs, runs, fins, Opd.run, Opd.vg, Opd.safe, Opd.still, isD, getS, k1, k2, k3]
theorem flat2_len (l : List PI2) : (flat2 l).length = 2 * l.length := by
  induction l with
  | nil => rfl
  | cons a l ih => simp [flat2] at ih ⊢; omega
structure Good (m : Int) (R : List (List PI2)) : Prop where
  len : (R.length : Int) = if 1 < m then m - 1 + m % 2 else 0
  row : ∀ r, r ∈ R → GoodRow m r ∧ r.length < 100
  nd : R.flatten.Nodup
  all : (R.flatten.length : Int) = m * (m - 1) / 2
  few : R.length < 100 ∧ R.flatten.length < 10000
theorem rr_4 (m : Int) (R : List (List PI2)) (g : Good m R) (c : Option T) :
    ∃ y4 y5 y6 y7, g_law_rounds_right_4 [some (tI m), some (fD R), c, some (mT []), none, none, none, none] = .nx [some (tI m), some (fD R), c, some (mT R.flatten), y4, y5, y6, y7] := by
  obtain ⟨ρ', e, p⟩ := loopN_inv (item := (Src.it ⟨some 1, true, (R.map fun r => PyData.list (r.map pD)).map T.d⟩).item) (fin := (Src.it ⟨some 1, true, (R.map fun r => PyData.list (r.map pD)).map T.d⟩).fin) (tg := setS 4) (body := sSeq g_law_rounds_right_4_1 (sSeq g_law_rounds_right_4_2 (sSeq g_law_rounds_right_4_3 g_law_rounds_right_4_4)))
    (fun k ρ => ∃ y4 y5 y6 y7, ρ = [some (tI m), some (fD R), c, some (mT (R.take k).flatten), y4, y5, y6, y7]) R.length
    (fun k ρ hk2 h => by
      obtain ⟨y4, y5, y6, y7, rfl⟩ := h
      have tk : R.take (k + 1) = R.take k ++ [R[k]] := by rw [List.take_add_one]; simp [hk2]
      obtain ⟨gr, hl⟩ := g.row R[k] (List.getElem_mem hk2)
      have e9 : R.flatten = ((R.take k).flatten ++ R[k]) ++ (R.drop (k + 1)).flatten := by
        have : R = R.take k ++ R[k] :: R.drop (k + 1) := by simp
        have h9 := congrArg List.flatten this
        rw [List.flatten_append, List.flatten_cons] at h9
        exact h9.trans (List.append_assoc _ _ _).symm
      have nd : ((R.take k).flatten ++ R[k]).Nodup := by
        have := g.nd
        rw [e9] at this
        exact (List.nodup_append.mp this).1
      have hfl : ((R.take k).flatten).length < 50000 := by
        have h1 := congrArg List.length e9
        have h2 := g.few.2
        simp only [List.length_append] at h1
        omega
      have e1 := rr_41 m (fD R) c (some (mT (R.take k).flatten)) y5 y6 y7 R[k] gr.len gr.srt
      have e2 := rr_42 (some (tI m)) (some (fD R)) c (some (mT (R.take k).flatten)) (some (rowT R[k])) y5 y6 y7
      obtain ⟨z6, z7, e3⟩ := rr_43 m (some (fD R)) c (R.take k).flatten hfl R[k] gr nd y6 y7
      have e4 := rr_44 (some (tI m)) (some (fD R)) c (some (mT ((R.take k).flatten ++ R[k]))) (some (rowT R[k])) (flat2 R[k]) (by rw [flat2_len]; omega) (by rw [flat2_len]; exact gr.uq) z6 z7
      refine ⟨rowT R[k], [some (tI m), some (fD R), c, some (mT (R.take k).flatten), some (rowT R[k]), y5, y6, y7], _, ?_, by simp [setS], .inl ?_, some (rowT R[k]), some (bT (flat2 R[k])), z6, z7, rfl⟩
      · rw [it_item 1 (R.map fun r => PyData.list (r.map pD)) _ k rfl]; simp [hk2, rowT]
      · simp only [sSeq, e1, e2, e3, e4]
        have fl : (R.take k ++ [R[k]]).flatten = (R.take k).flatten ++ R[k] := by simp only [List.flatten_append, List.flatten_cons, List.flatten_nil, List.append_nil]
        rw [tk, fl])
    (fun ρ h => by
      obtain ⟨y4, y5, y6, y7, rfl⟩ := h
      exact it_fin 1 _ _ rfl) R.length 0 [some (tI m), some (fD R), c, some (mT []), none, none, none, none] (by omega) ⟨none, none, none, none, by simp⟩
  obtain ⟨y4, y5, y6, y7, rfl⟩ := p
  rw [List.take_length] at e
  refine ⟨y4, y5, y6, y7, ?_⟩
  unfold g_law_rounds_right_4 sFor
  rw [src_slot 1 (R.map fun r => PyData.list (r.map pD)) _ rfl]
  have dj : disj (Src.it ⟨some 1, true, (R.map fun r => PyData.list (r.map pD)).map T.d⟩).ls [4, 5, 6] = true := rfl
  have rn : (Src.it ⟨some 1, true, (R.map fun r => PyData.list (r.map pD)).map T.d⟩).n = R.length := by simp [Src.it]
  simp only [Out.s, dj, if_true, rn]
  exact e
theorem rr (m : Int) (h0 : 0 ≤ m) (h1 : m < 61) (R : List (List PI2)) (g : Good m R) : fn_law_rounds_right [tI m, fD R] = .ret (.d (.bool true)) [some (tI m), some (fD R)] := by
  obtain ⟨y4, y5, y6, y7, e4⟩ := rr_4 m R g (some (tI R.length))
  have s1 : g_law_rounds_right_1 [some (tI m), some (fD R), none, none, none, none, none, none] = .nx [some (tI m), some (fD R), some (tI R.length), none, none, none, none, none] := by
    have gl := g.len
    by_cases c : 1 < m
    · rw [if_pos c] at gl
      simp [g_law_rounds_right_1, sSet, Out.s, Out.bind, gP2, gCall, gLst, kLst, kP, kk1, kk2, gOs, runs, fins, Opd.run, Opd.vg, Opd.safe, Opd.still, isD, getS, setS, oIx, gIx, kIxA, kIx, kInt1, kGtI, kSubI, kAdd, kAddI, kModI, kI2, c, atI, ixN, sizeLine_eq, gl]
    · rw [if_neg c] at gl
      simp [g_law_rounds_right_1, sSet, Out.s, Out.bind, gP2, gCall, gLst, kLst, kP, kk1, kk2, gOs, runs, fins, Opd.run, Opd.vg, Opd.safe, Opd.still, isD, getS, setS, oIx, gIx, kIxA, kIx, kInt1, kGtI, kSubI, kAdd, kAddI, kModI, kI2, c, atI, ixN, sizeLine_eq, gl]
  have e3 : PyData.eqv (.int R.length) (.int R.length) = true := by simp [PyData.eqv]
  have s2 : g_law_rounds_right_2 [some (tI m), some (fD R), some (tI R.length), none, none, none, none, none] = .nx [some (tI m), some (fD R), some (tI R.length), none, none, none, none, none] := by
    simp [g_law_rounds_right_2, sIf, sPass, Out.s, Out.bind, gOrB, gNotB, gTru, gTest, gP1, gP2, gCall, kP, kB, kk1, kk2, gOs, runs, fins, Opd.run, Opd.vg, Opd.safe, Opd.still, isD, getS, kIsi, tyOf, subTy, kTru, kkT, kLenA, kLen, kEqv, datOf, fD, ok_int, e3]
  have s3 : g_law_rounds_right_3 [some (tI m), some (fD R), some (tI R.length), none, none, none, none, none] = .nx [some (tI m), some (fD R), some (tI R.length), some (mT []), none, none, none, none] := by
    simp [g_law_rounds_right_3, sSet, Out.s, Opd.vg, gNewT, setS, mT]
  have s5 : g_law_rounds_right_5 [some (tI m), some (fD R), some (tI R.length), some (mT R.flatten), y4, y5, y6, y7] = .rt (.d (.bool true)) [some (tI m), some (fD R), some (tI R.length), some (mT R.flatten), y4, y5, y6, y7] := by
    have i1 : in64 m = true := in64_of (by omega) (by omega)
    have k2 : kLenA (mT R.flatten) = some (tI (m * (m - 1) / 2)) := by
      have kk : ∀ ks : List PI2, kLenA (mT ks) = some (tI ks.length) := fun ks => by simp [kLenA, kLen, kLenT, mT]
      rw [← g.all]; exact kk _
    have k3 : kEqv false (tI (m * (m - 1) / 2)) (tI (m * (m - 1) / 2)) = some (.d (.bool true)) := by simp [kEqv, datOf, ok_int, PyData.eqv]
    simp [g_law_rounds_right_5, sRet, Out.s, Out.bind, gP2, gCall, kP, kk1, kk2, gOs, runs, fins, Opd.run, Opd.vg, Opd.safe, Opd.still, isD, getS, kSubI, kMul, kMulI, kDivI, kI2, i1, k2, k3]
  have gg : g_law_rounds_right [some (tI m), some (fD R), none, none, none, none, none, none] = .rt (.d (.bool true)) [some (tI m), some (fD R), some (tI R.length), some (mT R.flatten), y4, y5, y6, y7] := by
    simp only [g_law_rounds_right, sSeq, s1, s2, s3, e4, s5]
  simp only [fn_law_rounds_right, fnOf, List.map_cons, List.map_nil, List.cons_append, List.nil_append]
  rw [show (List.replicate (8 - 2) (none : Option T)) = [none, none, none, none, none, none] from rfl, gg]
  rfl
end K66
end Hu
set_option maxRecDepth 1000000
set_option linter.all false
namespace Hu
namespace K66
open PySem L2
def tupT (r : List PI2) : T := .d (.tuple (r.map pD))
theorem frzs_row (r : List PI2) : frzsOf (r.map pT) = some (r.map pD) := by
  induction r with
  | nil => rfl
  | cons p r ih => simp [frzsOf, frzOf, pT] at ih ⊢; simp [ih]
theorem frzs_rows (R : List (List PI2)) : frzsOf (rT R) = some (R.map fun r => .list (r.map pD)) := by
  induction R with
  | nil => rfl
  | cons r R ih => simp [rT, frzsOf, frzOf, frzs_row] at ih ⊢; simp [ih]
theorem frz_found (R : List (List PI2)) : frzT (.lst (rT R)) = some (fD R) := by simp [frzT, frzOf, frzs_rows, fD]
theorem l31 (m : Int) (R : List (List PI2)) (e : fn_robin [tI m] = .ret (.lst (rT R)) [some (tI m)]) (s0 s1 s2 s4 s5 s6 s7 : Option T) : g_law_3_1 [s0, s1, s2, some (tI m), s4, s5, s6, s7] = .nx [s0, s1, s2, some (tI m), s4, some (.lst (rT R)), s6, s7] := by
  have l1 : lendC [.nm 3] [false] = true := rfl
  have bk : ∀ b, backL b [.nm 3] [false] [some (tI m)] [s0, s1, s2, some (tI m), s4, s5, s6, s7] = [s0, s1, s2, some (tI m), s4, s5, s6, s7] := fun b => by
    cases b <;> simp [backL, lentOf, lentAt, borS, frzT, frzOf, List.mapIdx, List.mapIdx.go, List.range, List.range.loop]
  simp [g_law_3_1, sSet, Out.s, Out.bind, gUser, gOs, runs, fins, Opd.run, Opd.vg, Opd.lt, Opd.safe, Opd.still, isD, getS, setS, argT, frzT, frzOf, e, l1, bk]
theorem l32 (m : Int) (R : List (List PI2)) (e : fn_law_rounds_right [tI m, fD R] = .ret (.d (.bool true)) [some (tI m), some (fD R)]) (s0 s1 s2 s4 s6 s7 : Option T) : g_law_3_2 [s0, s1, s2, some (tI m), s4, some (.lst (rT R)), s6, s7] = .nx [s0, s1, s2, some (tI m), s4, some (.lst (rT R)), s6, s7] := by
  have l1 : lendC [.nm 3, .nm 5] [false, false] = true := rfl
  have f1 : frzT (tI m) = some (tI m) := rfl
  simp [g_law_3_2, sIf, sPass, Out.s, Out.bind, gNotB, gTru, kB, kkT, kTru, gUser, gOs, runs, fins, Opd.run, Opd.vg, Opd.lt, Opd.safe, Opd.still, isD, getS, setS, argT, f1, frz_found, e, l1, backL, lentOf, lentAt, borS, indep, imm, backC, List.mapIdx, List.mapIdx.go, List.range, List.range.loop]
theorem tup_row (r : List PI2) : kTupOf (.lst (r.map pT)) = some (tupT r) := by
  have h1 : listOf (.lst (r.map pT)) = some (r.map pD) := by rw [pT_map]; exact asDs_map _
  simp [kTupOf, seqOf, h1, tupT]
theorem lcM_tup (s0 s1 s2 s3 s4 s6 : Option T) : ∀ (R : List (List PI2)) (dn acc : List T), acc.length + R.length < 1000 →
    lcM 7 [7] gYes (Opd.vg (.val (gCall (kk1 kTupOf) [(.nm 7)]))) (rT R) dn acc [s0, s1, s2, s3, s4, none, s6, none] = some (dn ++ rT R, acc ++ R.map tupT, [s0, s1, s2, s3, s4, none, s6, none])
  | [], dn, acc, _ => by simp [rT, lcM]
  | r :: R, dn, acc, h => by
    have ih := lcM_tup s0 s1 s2 s3 s4 s6 R (dn ++ [.lst (r.map pT)]) (acc ++ [tupT r]) (by simp at h ⊢; omega)
    have hz : acc.length < 16777216 := by simp at h; omega
    show lcM 7 [7] gYes _ (.lst (r.map pT) :: rT R) dn acc _ = _
    simp [lcM, setS, gYes, Opd.vg, gCall, kP, kk1, gOs, runs, fins, Opd.run, Opd.safe, Out.bind, getS, tup_row, wipeR, hz, sizeLine_eq] at ih ⊢
    rw [ih]
    simp [rT]
theorem l33 (R : List (List PI2)) (hR : R.length < 100) (s0 s1 s2 s3 s4 s6 s7 : Option T) : ∃ y7, g_law_3_3 [s0, s1, s2, s3, s4, some (.lst (rT R)), s6, s7] = .nx [s0, s1, s2, s3, s4, some (.lst (rT R)), some (.lst (R.map tupT)), y7] := by
  have e := lcM_tup s0 s1 s2 s3 s4 s6 R [] [] (by simp; omega)
  refine ⟨bk s7, ?_⟩
  simp only [List.nil_append] at e
  simp [g_law_3_3, sSet, Out.s, Opd.vg, gLcM, getS, wipeR, e, setS, backR, List.mapIdx, List.mapIdx.go] at e ⊢
  simp [e, bk]
  all_goals (rcases s7 with _ | t <;> first | rfl | (cases t <;> rfl))
def addZ (R : List (List PI2)) : List (List PI2) := R.map (· ++ [(0, 0)])
theorem loopM_z (s0 s1 s2 s3 s4 s6 : Option T) : ∀ (R : List (List PI2)) (dn : List T), (∀ r, r ∈ R → r.length < 1000) →
    loopM 7 g_law_3_4_1 (rT R) dn [s0, s1, s2, s3, s4, none, s6, none] = .fin (dn ++ rT (addZ R)) [s0, s1, s2, s3, s4, none, s6, none]
  | [], dn, _ => by simp [rT, addZ, loopM]
  | r :: R, dn, h => by
    have ih := loopM_z s0 s1 s2 s3 s4 s6 R (dn ++ [.lst ((r ++ [(0, 0)]).map pT)]) fun r' h' => h r' (List.mem_cons_of_mem _ h')
    have hz : r.length < 16777216 := by have := h r List.mem_cons_self; omega
    have b1 : g_law_3_4_1 [s0, s1, s2, s3, s4, none, s6, some (.lst (r.map pT))] = .nx [s0, s1, s2, s3, s4, none, s6, some (.lst ((r ++ [(0, 0)]).map pT))] := by
      simp [g_law_3_4_1, sDrop, Out.s, Out.bind, gMut, gOs, runs, fins, Opd.run, Opd.vg, Opd.safe, getS, gTup, kTup, mkTup, asDs, mApp, hz, sizeLine_eq, pT, pD]
    show loopM 7 g_law_3_4_1 (.lst (r.map pT) :: rT R) dn _ = _
    simp only [loopM, setS, List.length_cons, List.length_nil, Nat.reduceAdd, Nat.reduceLT, if_true, List.set_cons_succ, List.set_cons_zero, b1]
    show (match getS [s0, s1, s2, s3, s4, none, s6, some (.lst ((r ++ [(0, 0)]).map pT))] 7 with | some t' => loopM 7 g_law_3_4_1 (rT R) (dn ++ [t']) _ | none => MOut.out .bad) = _
    simp only [getS, List.getElem?_cons_succ, List.getElem?_cons_zero, Option.join_some]
    rw [ih]
    simp [rT, addZ]
theorem l34 (R : List (List PI2)) (hR : ∀ r, r ∈ R → r.length < 1000) (s0 s1 s2 s3 s4 s6 : Option T) : g_law_3_4 [s0, s1, s2, s3, s4, some (.lst (rT R)), s6, none] = .nx [s0, s1, s2, s3, s4, some (.lst (rT (addZ R))), s6, none] := by
  have e := loopM_z s0 s1 s2 s3 s4 s6 R [] hR
  simp only [List.nil_append] at e
  simp [g_law_3_4, sForM, getS, e, setS]
theorem l34' (R : List (List PI2)) (hR : ∀ r, r ∈ R → r.length < 1000) (s0 s1 s2 s3 s4 s6 y7 : Option T) : ∃ z7, g_law_3_4 [s0, s1, s2, s3, s4, some (.lst (rT R)), s6, y7] = .nx [s0, s1, s2, s3, s4, some (.lst (rT (addZ R))), s6, z7] := by
  cases R with
  | nil => exact ⟨y7, by simp [g_law_3_4, sForM, getS, rT, addZ, loopM, setS]⟩
  | cons r R =>
    refine ⟨none, ?_⟩
    have h := l34 (r :: R) hR s0 s1 s2 s3 s4 s6
    have e : ∀ y : Option T, g_law_3_4 [s0, s1, s2, s3, s4, some (.lst (rT (r :: R))), s6, y] = g_law_3_4 [s0, s1, s2, s3, s4, some (.lst (rT (r :: R))), s6, none] := fun y => by
      show sForM 5 7 [] g_law_3_4_1 _ = sForM 5 7 [] g_law_3_4_1 _
      simp [sForM, getS, rT, loopM, setS]
    rw [e]; exact h
theorem l35 (ts : List T) (h : ts.length < 1000) (s0 s1 s2 s3 s4 s6 s7 : Option T) : g_law_3_5 [s0, s1, s2, s3, s4, some (.lst ts), s6, s7] = .nx [s0, s1, s2, s3, s4, some (.lst (ts ++ [.lst []])), s6, s7] := by
  have hz : ts.length < 16777216 := by omega
  simp [g_law_3_5, sDrop, Out.s, Out.bind, gMut, gOs, runs, fins, Opd.run, Opd.vg, Opd.safe, getS, gLst, kLst, mApp, hz, sizeLine_eq]
theorem lcN_tup (m : Int) (s0 s1 s2 s4 s5 s6 : Option T) (R : List (List PI2)) (hR : R.length < 1000) :
    lcN (Src.it ⟨none, true, rT R⟩).item (Src.it ⟨none, true, rT R⟩).fin (setS 7) [7] gYes (Opd.vg (.val (gCall (kk1 kTupOf) [(.nm 7)]))) R.length 0 [] [s0, s1, s2, some (tI m), s4, s5, s6, none] = some (R.map tupT, [s0, s1, s2, some (tI m), s4, s5, s6, none]) := by
  obtain ⟨us, ρ', e, p⟩ := lcN_inv (item := (Src.it ⟨none, true, rT R⟩).item) (fin := (Src.it ⟨none, true, rT R⟩).fin) (tg := setS 7) (vs := [7]) (test := gYes) (elt := Opd.vg (.val (gCall (kk1 kTupOf) [(.nm 7)])))
    (fun k acc ρ => acc = (R.take k).map tupT ∧ ρ = [s0, s1, s2, some (tI m), s4, s5, s6, none]) R.length (by omega)
    (fun k acc ρ hk h => by
      obtain ⟨rfl, rfl⟩ := h
      have tk : R.take (k + 1) = R.take k ++ [R[k]] := by rw [List.take_add_one]; simp [hk]
      refine ⟨.lst (R[k].map pT), [s0, s1, s2, some (tI m), s4, s5, s6, some (.lst (R[k].map pT))], true, [s0, s1, s2, some (tI m), s4, s5, s6, some (.lst (R[k].map pT))], by simp [Src.it, Src.item, rT, hk], by simp [setS], rfl, fun _ => ⟨tupT R[k], [s0, s1, s2, some (tI m), s4, s5, s6, some (.lst (R[k].map pT))], ?_, ?_, by simp [wipeR]⟩, fun hb => by cases hb⟩
      · simp [Opd.vg, gCall, kP, kk1, gOs, runs, fins, Opd.run, Opd.safe, Out.bind, getS, tup_row]
      · rw [tk, List.map_append]; rfl)
    (fun k acc ρ h => by rw [h.1]; simp; omega) (fun acc ρ h => rfl) R.length 0 [] [s0, s1, s2, some (tI m), s4, s5, s6, none] (by omega) ⟨by simp, rfl⟩
  obtain ⟨rfl, rfl⟩ := p
  rw [e, List.take_length]
theorem noDict_tups (R : List (List PI2)) : noDictA (R.map fun r => .tuple (r.map pD)) = true := by
  induction R with
  | nil => rfl
  | cons r R ih => simp [noDictA, noDict, noDict_row] at ih ⊢; exact ih
theorem ok_tups (R : List (List PI2)) : okD (.list (R.map fun r => .tuple (r.map pD))) = true := by
  have h1 : PyData.canLayAll0 (R.map fun r => PyData.tuple (r.map pD)) = true := by
    induction R with
    | nil => rfl
    | cons r R ih => simp [PyData.canLayAll0, PyData.canLay0, lay_row] at ih ⊢; exact ih
  have h2 : PyData.depthAll (R.map fun r => PyData.tuple (r.map pD)) ≤ 2 := by
    clear h1
    induction R with
    | nil => simp [PyData.depthAll]
    | cons r R ih =>
      have := dep_row r
      simp [PyData.depthAll, PyData.depth] at ih ⊢; omega
  unfold okD SeqAt.shaped
  rw [Bool.and_eq_true, decide_eq_true_eq]
  refine ⟨by simp only [PyData.canLay0]; exact h1, ?_⟩
  simp only [PyData.depth]; omega
theorem dat_tups (R : List (List PI2)) : datOf (.lst (R.map tupT)) = some (.list (R.map fun r => .tuple (r.map pD))) := by
  have : R.map tupT = (R.map fun r => PyData.tuple (r.map pD)).map T.d := by simp [tupT]
  simp only [datOf, this, datsOf_map, Option.map_some]
theorem eq_tups (R : List (List PI2)) : kEqv true (.lst (R.map tupT)) (.lst (R.map tupT)) = some (.d (.bool false)) := by
  have h := eqv_refl (.list (R.map fun r => .tuple (r.map pD))) (by simpa [noDict] using noDict_tups R)
  simp [kEqv, dat_tups, ok_tups, h]
theorem l36 (m : Int) (R : List (List PI2)) (hR : R.length < 1000) (e : fn_robin [tI m] = .ret (.lst (rT R)) [some (tI m)]) (s0 s1 s2 s4 s5 s7 : Option T) : ∃ y7, g_law_3_6 [s0, s1, s2, some (tI m), s4, s5, some (.lst (R.map tupT)), s7] = .nx [s0, s1, s2, some (tI m), s4, s5, some (.lst (R.map tupT)), y7] := by
  have l1 : lendC [.nm 3] [false] = true := rfl
  have bk1 : ∀ b s7, backL b [.nm 3] [false] [some (tI m)] [s0, s1, s2, some (tI m), s4, s5, some (.lst (R.map tupT)), s7] = [s0, s1, s2, some (tI m), s4, s5, some (.lst (R.map tupT)), s7] := fun b s7 => by
    cases b <;> simp [backL, lentOf, lentAt, borS, frzT, frzOf, List.mapIdx, List.mapIdx.go, List.range, List.range.loop]
  have c := lcN_tup m s0 s1 s2 s4 s5 (some (.lst (R.map tupT))) R hR
  have rn : (Src.it ⟨none, true, rT R⟩).n = R.length := by simp [Src.it, rT]
  have dj : disj (Src.it ⟨none, true, rT R⟩).ls [7] = true := rfl
  have u : gUser fn_robin [false] ([(.nm 3)].map Opd.lt) [s0, s1, s2, some (tI m), s4, s5, some (.lst (R.map tupT)), s7] = .ok (.lst (rT R)) [s0, s1, s2, some (tI m), s4, s5, some (.lst (R.map tupT)), s7] := by
    simp [gUser, gOs, runs, fins, Opd.run, Opd.lt, Opd.safe, Out.bind, getS, argT, frzT, frzOf, e, l1, bk1]
  have lc : gLc [7] (gSeq (.val (gUser fn_robin [false] ([(.nm 3)].map Opd.lt)))) (setS 7) gYes (Opd.vg (.val (gCall (kk1 kTupOf) [(.nm 7)]))) [s0, s1, s2, some (tI m), s4, s5, some (.lst (R.map tupT)), s7] = .ok (.lst (R.map tupT)) [s0, s1, s2, some (tI m), s4, s5, some (.lst (R.map tupT)), bk s7] := by
    unfold gLc gSeq
    simp only [Opd.src, Opd.vg] at c ⊢
    rw [u]
    simp only [Out.bind, srcOf, dj, if_true, rn, wipeR, List.set_cons_succ, List.set_cons_zero, c]
    simp [backR, List.mapIdx, List.mapIdx.go, getS]
    cases s7 with
    | none => rfl
    | some t => cases t <;> rfl
  refine ⟨bk s7, ?_⟩
  unfold g_law_3_6
  generalize hg : gLc [7] (gSeq (.val (gUser fn_robin [false] ([(.nm 3)].map Opd.lt)))) (setS 7) gYes (Opd.vg (.val (gCall (kk1 kTupOf) [(.nm 7)]))) = G1 at lc
  simp [sIf, sPass, Out.s, Out.bind, gTest, gP2, kP, kk2, gOs, runs, fins, Opd.run, Opd.safe, Opd.still, isD, getS, lc, eq_tups]
end K66
end Hu
set_option maxRecDepth 1000000
set_option linter.all false
namespace Hu
namespace K66
open PySem L2
theorem it_item' (i : Nat) (ds : List D) (ρ : Rho) (k : Nat) {t : T} (h : getS ρ i = some t) (hl : listOf t = some ds) : (Src.it ⟨some i, true, ds.map T.d⟩).item k ρ = (ds[k]?).map T.d := by
  simp [Src.it, Src.item, Src.look, h, seqK, hl]
theorem it_fin' (i : Nat) (ds : List D) (ρ : Rho) {t : T} (h : getS ρ i = some t) (hl : listOf t = some ds) : (Src.it ⟨some i, true, ds.map T.d⟩).fin ρ = true := by
  simp [Src.it, Src.fin, Src.look, h, seqK, hl]
def Rm (m : Int) : List (List PI2) := if m < 2 then [] else rows m (m + m % 2) (m + m % 2 - 1).toNat
theorem robin_R (m : Int) (h0 : 0 ≤ m) (h1 : m < 61) : fn_robin [tI m] = .ret (.lst (rT (Rm m))) [some (tI m)] := by
  unfold Rm
  by_cases c : m < 2
  · rw [if_pos c]; exact robin_lt m c
  · rw [if_neg c]; exact robin_ge m (by omega) h1
theorem small_ints : ∀ {vs : List T}, (∀ t, t ∈ vs → ∃ i : Int, 0 ≤ i ∧ i < 61 ∧ t = tI i) → ∃ is : List Int, vs = (is.map PyData.int).map T.d ∧ ∀ i, i ∈ is → 0 ≤ i ∧ i < 61
  | [], _ => ⟨[], rfl, fun i h => by simp at h⟩
  | t :: vs, h => by
    obtain ⟨i, h1, h2, rfl⟩ := h t List.mem_cons_self
    obtain ⟨is, rfl, h3⟩ := small_ints fun u hu => h u (List.mem_cons_of_mem _ hu)
    refine ⟨i :: is, rfl, fun k hk => ?_⟩
    rcases List.mem_cons.mp hk with rfl | hk
    · exact ⟨h1, h2⟩
    · exact h3 k hk
theorem l3 (hg : ∀ m : Int, 0 ≤ m → m < 61 → Good m (Rm m)) (s0 : Option T) (vs : List T) (hv : Small vs) (x2 x3 x4 x5 x6 x7 : Option T) : ∃ y2 y3 y4 y5 y6 y7, g_law_3 [s0, some (.lst vs), x2, x3, x4, x5, x6, x7] = .nx [s0, some (.lst vs), y2, y3, y4, y5, y6, y7] := by
  obtain ⟨is, rfl, hi⟩ := small_ints hv.2
  have hl : listOf (.lst ((is.map PyData.int).map T.d)) = some (is.map PyData.int) := asDs_map _
  have hs : slotSrc 1 (.lst ((is.map PyData.int).map T.d)) = some ⟨some 1, true, (is.map PyData.int).map T.d⟩ := by simp only [slotSrc, hl]
  obtain ⟨ρ', e, p⟩ := loopN_inv (item := (Src.it ⟨some 1, true, (is.map PyData.int).map T.d⟩).item) (fin := (Src.it ⟨some 1, true, (is.map PyData.int).map T.d⟩).fin) (tg := setS 3) (body := sSeq g_law_3_1 (sSeq g_law_3_2 (sSeq g_law_3_3 (sSeq g_law_3_4 (sSeq g_law_3_5 g_law_3_6)))))
    (fun k ρ => ∃ y2 y3 y4 y5 y6 y7, ρ = [s0, some (.lst ((is.map PyData.int).map T.d)), y2, y3, y4, y5, y6, y7]) is.length
    (fun k ρ hk h => by
      obtain ⟨y2, y3, y4, y5, y6, y7, rfl⟩ := h
      obtain ⟨m0, m1⟩ := hi is[k] (List.getElem_mem hk)
      have g := hg is[k] m0 m1
      have er := robin_R is[k] m0 m1
      have err := rr is[k] m0 m1 (Rm is[k]) g
      have e1 := l31 is[k] (Rm is[k]) er s0 (some (.lst ((is.map PyData.int).map T.d))) y2 y4 y5 y6 y7
      have e2 := l32 is[k] (Rm is[k]) err s0 (some (.lst ((is.map PyData.int).map T.d))) y2 y4 y6 y7
      obtain ⟨z7, e3⟩ := l33 (Rm is[k]) g.few.1 s0 (some (.lst ((is.map PyData.int).map T.d))) y2 (some (tI is[k])) y4 y6 y7
      obtain ⟨w7, e4⟩ := l34' (Rm is[k]) (fun r hr => by have := (g.row r hr).2; omega) s0 (some (.lst ((is.map PyData.int).map T.d))) y2 (some (tI is[k])) y4 (some (.lst ((Rm is[k]).map tupT))) z7
      have fw := g.few.1
      have e5 := l35 (rT (addZ (Rm is[k]))) (by simp [rT, addZ]; omega) s0 (some (.lst ((is.map PyData.int).map T.d))) y2 (some (tI is[k])) y4 (some (.lst ((Rm is[k]).map tupT))) w7
      obtain ⟨v7, e6⟩ := l36 is[k] (Rm is[k]) (by omega) er s0 (some (.lst ((is.map PyData.int).map T.d))) y2 y4 (some (.lst (rT (addZ (Rm is[k])) ++ [.lst []]))) w7
      refine ⟨tI is[k], [s0, some (.lst ((is.map PyData.int).map T.d)), y2, some (tI is[k]), y4, y5, y6, y7], _, ?_, by simp [setS], .inl ?_, y2, some (tI is[k]), y4, some (.lst (rT (addZ (Rm is[k])) ++ [.lst []])), some (.lst ((Rm is[k]).map tupT)), v7, rfl⟩
      · rw [it_item' 1 (is.map PyData.int) _ k rfl hl]; simp [hk]
      · simp only [sSeq, e1, e2, e3, e4, e5, e6])
    (fun ρ h => by
      obtain ⟨y2, y3, y4, y5, y6, y7, rfl⟩ := h
      exact it_fin' 1 (is.map PyData.int) _ rfl hl) is.length 0 [s0, some (.lst ((is.map PyData.int).map T.d)), x2, x3, x4, x5, x6, x7] (by omega) ⟨x2, x3, x4, x5, x6, x7, rfl⟩
  obtain ⟨y2, y3, y4, y5, y6, y7, rfl⟩ := p
  refine ⟨y2, y3, y4, y5, y6, y7, ?_⟩
  have dj : disj (Src.it ⟨some 1, true, (is.map PyData.int).map T.d⟩).ls [3, 5, 6, 7] = true := rfl
  have rn : (Src.it ⟨some 1, true, (is.map PyData.int).map T.d⟩).n = is.length := by simp [Src.it]
  unfold g_law_3 sFor gSeq
  simp only [Opd.src, getS, List.getElem?_cons_succ, List.getElem?_cons_zero, Option.join_some, hs, Out.bind, Out.s, dj, if_true, rn]
  exact e
theorem keeps_of (hg : ∀ m : Int, 0 ≤ m → m < 61 → Good m (Rm m)) : Keeps fn_law := fun ns hl _ => by
  obtain ⟨vs, x2, x4, hs, e2⟩ := law_2 ns hl
  obtain ⟨y2, y3, y4, y5, y6, y7, e3⟩ := l3 hg (some (.scr ns)) vs hs x2 none x4 none none none
  have e4 : ∀ ρ, g_law_4 ρ = .rt (.d (.bool true)) ρ := fun ρ => rfl
  have g : g_law [some (.scr ns), none, none, none, none, none, none, none] = .rt (.d (.bool true)) [some (.scr ns), some (.lst vs), y2, y3, y4, y5, y6, y7] := by
    simp only [g_law, sSeq, law_1, e2, e3, e4]
  simp only [fn_law, fnOf, List.map_cons, List.map_nil, List.cons_append, List.nil_append]
  rw [show (List.replicate (8 - 1) (none : Option T)) = [none, none, none, none, none, none, none] from rfl, g]
  exact ⟨_, rfl⟩
end K66
end Hu
set_option Elab.async false
set_option maxRecDepth 1000000
set_option linter.all false
namespace Hu
namespace K66
open PySem L2
def nd1 : Nat → List Nat → Bool
  | _, [] => true
  | s, c :: r => !(s.testBit c) && nd1 (s ||| 2 ^ c) r
theorem nd1_ok : ∀ {l : List Nat} {s : Nat}, nd1 s l = true → l.Nodup ∧ ∀ c, c ∈ l → s.testBit c = false
  | [], _, _ => ⟨List.nodup_nil, fun c h => by simp at h⟩
  | c :: r, s, h => by
    simp only [nd1, Bool.and_eq_true, Bool.not_eq_true'] at h
    obtain ⟨n, ih⟩ := nd1_ok h.2
    have key : ∀ d, d ∈ r → s.testBit d = false ∧ d ≠ c := fun d hd => by
      have := ih d hd
      rw [Nat.testBit_or, Bool.or_eq_false_iff] at this
      refine ⟨this.1, fun e => ?_⟩
      subst e
      rw [Nat.testBit_two_pow_self] at this
      cases this.2
    refine ⟨List.nodup_cons.mpr ⟨fun z => (key c z).2 rfl, n⟩, fun d hd => ?_⟩
    (rcases List.mem_cons.mp hd with rfl | hd)
    · exact h.1
    · exact (key d hd).1
theorem nd_map {α : Type} {f : α → Nat} {l : List α} (h : (l.map f).Nodup) : l.Nodup := (List.pairwise_map.mp h).imp fun {a b} hab e => hab (congrArg f e)
def code (p : PI2) : Nat := p.1.toNat * 64 + p.2.toNat
def un (m w t : Int) : List PI2 := (prs w t ((w / 2).toNat - 1)).filter fun p => decide (p.2 < m)
def uns (m w : Int) (n : Nat) : List (List PI2) := (List.range n).map fun (j : Nat) => un m w (j : Int)
def okRow (m : Int) (r : List PI2) : Bool := decide ((r.length : Int) = m / 2) && r.all (fun p => decide (0 ≤ p.1) && decide (p.1 < p.2) && decide (p.2 < m)) && nd1 0 ((flat2 r).map Int.toNat) && decide (r.length < 100)
def chk (m : Int) : Bool := (uns m (m + m % 2) (m + m % 2 - 1).toNat).all (okRow m) && nd1 0 ((uns m (m + m % 2) (m + m % 2 - 1).toNat).flatten.map code) && decide (((uns m (m + m % 2) (m + m % 2 - 1).toNat).flatten.length : Int) = m * (m - 1) / 2)
theorem c2 : chk ((2 : Nat) : Int) = true := by decide +kernel
theorem c3 : chk ((3 : Nat) : Int) = true := by decide +kernel
theorem c4 : chk ((4 : Nat) : Int) = true := by decide +kernel
theorem c5 : chk ((5 : Nat) : Int) = true := by decide +kernel
theorem c6 : chk ((6 : Nat) : Int) = true := by decide +kernel
theorem c7 : chk ((7 : Nat) : Int) = true := by decide +kernel
theorem c8 : chk ((8 : Nat) : Int) = true := by decide +kernel
theorem c9 : chk ((9 : Nat) : Int) = true := by decide +kernel
theorem c10 : chk ((10 : Nat) : Int) = true := by decide +kernel
theorem c11 : chk ((11 : Nat) : Int) = true := by decide +kernel
theorem c12 : chk ((12 : Nat) : Int) = true := by decide +kernel
theorem c13 : chk ((13 : Nat) : Int) = true := by decide +kernel
theorem c14 : chk ((14 : Nat) : Int) = true := by decide +kernel
theorem c15 : chk ((15 : Nat) : Int) = true := by decide +kernel
theorem c16 : chk ((16 : Nat) : Int) = true := by decide +kernel
theorem c17 : chk ((17 : Nat) : Int) = true := by decide +kernel
theorem c18 : chk ((18 : Nat) : Int) = true := by decide +kernel
theorem c19 : chk ((19 : Nat) : Int) = true := by decide +kernel
theorem c20 : chk ((20 : Nat) : Int) = true := by decide +kernel
theorem c21 : chk ((21 : Nat) : Int) = true := by decide +kernel
theorem c22 : chk ((22 : Nat) : Int) = true := by decide +kernel
theorem c23 : chk ((23 : Nat) : Int) = true := by decide +kernel
theorem c24 : chk ((24 : Nat) : Int) = true := by decide +kernel
theorem c25 : chk ((25 : Nat) : Int) = true := by decide +kernel
theorem c26 : chk ((26 : Nat) : Int) = true := by decide +kernel
theorem c27 : chk ((27 : Nat) : Int) = true := by decide +kernel
theorem c28 : chk ((28 : Nat) : Int) = true := by decide +kernel
theorem c29 : chk ((29 : Nat) : Int) = true := by decide +kernel
theorem c30 : chk ((30 : Nat) : Int) = true := by decide +kernel
theorem c31 : chk ((31 : Nat) : Int) = true := by decide +kernel
theorem c32 : chk ((32 : Nat) : Int) = true := by decide +kernel
theorem c33 : chk ((33 : Nat) : Int) = true := by decide +kernel
theorem c34 : chk ((34 : Nat) : Int) = true := by decide +kernel
theorem c35 : chk ((35 : Nat) : Int) = true := by decide +kernel
theorem c36 : chk ((36 : Nat) : Int) = true := by decide +kernel
theorem c37 : chk ((37 : Nat) : Int) = true := by decide +kernel
theorem c38 : chk ((38 : Nat) : Int) = true := by decide +kernel
theorem c39 : chk ((39 : Nat) : Int) = true := by decide +kernel
theorem c40 : chk ((40 : Nat) : Int) = true := by decide +kernel
theorem c41 : chk ((41 : Nat) : Int) = true := by decide +kernel
theorem c42 : chk ((42 : Nat) : Int) = true := by decide +kernel
theorem c43 : chk ((43 : Nat) : Int) = true := by decide +kernel
theorem c44 : chk ((44 : Nat) : Int) = true := by decide +kernel
theorem c45 : chk ((45 : Nat) : Int) = true := by decide +kernel
theorem c46 : chk ((46 : Nat) : Int) = true := by decide +kernel
theorem c47 : chk ((47 : Nat) : Int) = true := by decide +kernel
theorem c48 : chk ((48 : Nat) : Int) = true := by decide +kernel
theorem c49 : chk ((49 : Nat) : Int) = true := by decide +kernel
theorem c50 : chk ((50 : Nat) : Int) = true := by decide +kernel
theorem c51 : chk ((51 : Nat) : Int) = true := by decide +kernel
theorem c52 : chk ((52 : Nat) : Int) = true := by decide +kernel
theorem c53 : chk ((53 : Nat) : Int) = true := by decide +kernel
theorem c54 : chk ((54 : Nat) : Int) = true := by decide +kernel
theorem c55 : chk ((55 : Nat) : Int) = true := by decide +kernel
theorem c56 : chk ((56 : Nat) : Int) = true := by decide +kernel
theorem c57 : chk ((57 : Nat) : Int) = true := by decide +kernel
theorem c58 : chk ((58 : Nat) : Int) = true := by decide +kernel
theorem c59 : chk ((59 : Nat) : Int) = true := by decide +kernel
theorem c60 : chk ((60 : Nat) : Int) = true := by decide +kernel
theorem chk_all (k : Nat) (h : k < 61) (h2 : 2 ≤ k) : chk (k : Int) = true := match k, h, h2 with
  | 0, _, h => absurd h (by decide)
  | 1, _, h => absurd h (by decide)
  | 2, _, _ => c2
  | 3, _, _ => c3
  | 4, _, _ => c4
  | 5, _, _ => c5
  | 6, _, _ => c6
  | 7, _, _ => c7
  | 8, _, _ => c8
  | 9, _, _ => c9
  | 10, _, _ => c10
  | 11, _, _ => c11
  | 12, _, _ => c12
  | 13, _, _ => c13
  | 14, _, _ => c14
  | 15, _, _ => c15
  | 16, _, _ => c16
  | 17, _, _ => c17
  | 18, _, _ => c18
  | 19, _, _ => c19
  | 20, _, _ => c20
  | 21, _, _ => c21
  | 22, _, _ => c22
  | 23, _, _ => c23
  | 24, _, _ => c24
  | 25, _, _ => c25
  | 26, _, _ => c26
  | 27, _, _ => c27
  | 28, _, _ => c28
  | 29, _, _ => c29
  | 30, _, _ => c30
  | 31, _, _ => c31
  | 32, _, _ => c32
  | 33, _, _ => c33
  | 34, _, _ => c34
  | 35, _, _ => c35
  | 36, _, _ => c36
  | 37, _, _ => c37
  | 38, _, _ => c38
  | 39, _, _ => c39
  | 40, _, _ => c40
  | 41, _, _ => c41
  | 42, _, _ => c42
  | 43, _, _ => c43
  | 44, _, _ => c44
  | 45, _, _ => c45
  | 46, _, _ => c46
  | 47, _, _ => c47
  | 48, _, _ => c48
  | 49, _, _ => c49
  | 50, _, _ => c50
  | 51, _, _ => c51
  | 52, _, _ => c52
  | 53, _, _ => c53
  | 54, _, _ => c54
  | 55, _, _ => c55
  | 56, _, _ => c56
  | 57, _, _ => c57
  | 58, _, _ => c58
  | 59, _, _ => c59
  | 60, _, _ => c60
  | n + 61, h, _ => absurd h (by omega)
theorem uniq_nodup : ∀ {ns acc : List Int}, (acc ++ ns).Nodup → (ns.foldl PyProof.Rows.step_dedup acc) = acc ++ ns
  | [], acc, _ => by simp
  | n :: ns, acc, h => by
    have hn : n ∉ acc := fun z => (List.nodup_append.mp h).2.2 n z n List.mem_cons_self rfl
    have e : PyProof.Rows.step_dedup acc n = acc ++ [n] := by
      unfold PyProof.Rows.step_dedup
      rw [if_neg]
      rw [List.any_eq_true]
      rintro ⟨x, hx, he⟩
      have : x = n := by simpa using he
      exact hn (this ▸ hx)
    have h2 : ((acc ++ [n]) ++ ns).Nodup := by simpa using h
    rw [List.foldl_cons, e, uniq_nodup h2]; simp
theorem perm_flat2 {r r' : List PI2} (p : r.Perm r') : (flat2 r).Perm (flat2 r') := p.flatMap_right _
theorem sorts_perm (m w : Int) : ∀ n : Nat, (rows m w n).flatten.Perm (uns m w n).flatten
  | 0 => by simp [rows, uns]
  | n + 1 => by
    have ih := sorts_perm m w n
    simp only [rows, uns, List.range_succ, List.map_append, List.flatten_append, List.map_cons, List.map_nil, List.flatten_cons, List.flatten_nil, List.append_nil] at ih ⊢
    exact ih.append (sortP_perm _)
theorem good_row (m : Int) (u : List PI2) (h : okRow m u = true) : GoodRow m (sortP u) ∧ (sortP u).length < 100 := by
  simp only [okRow, Bool.and_eq_true, decide_eq_true_eq, List.all_eq_true] at h
  (obtain ⟨⟨⟨h1, h2⟩, h3⟩, h4⟩ := h)
  have p := sortP_perm u
  have hl := p.length_eq
  have nd : (flat2 (sortP u)).Nodup := (perm_flat2 p).nodup_iff.mpr (nd_map (nd1_ok h3).1)
  refine ⟨⟨by rw [hl]; exact h1, sortedP_unique (sortP_perm _) (sortP_sorted _) (sortP_sorted _), fun q hq => ?_, by omega, ?_⟩, by omega⟩
  · obtain ⟨⟨a, b⟩, c⟩ := h2 q (p.mem_iff.mp hq)
    exact ⟨a, b, c⟩
  · have : uniqI (flat2 (sortP u)) = flat2 (sortP u) := uniq_nodup (acc := []) (by simpa using nd)
    rw [this, flat2_len]
theorem good (m : Int) (h0 : 0 ≤ m) (h1 : m < 61) : Good m (Rm m) := by
  unfold Rm
  by_cases c : m < 2
  · rw [if_pos c]
    have : m = 0 ∨ m = 1 := by omega
    refine ⟨?_, fun r h => by simp at h, by simp, ?_, by simp⟩
    · rcases this with rfl | rfl <;> rfl
    · rcases this with rfl | rfl <;> rfl
  · rw [if_neg c]
    have hk := chk_all m.toNat (by omega) (by omega)
    have em : ((m.toNat : Nat) : Int) = m := by omega
    · rw [em] at hk
      simp only [chk, Bool.and_eq_true, decide_eq_true_eq, List.all_eq_true] at hk
      obtain ⟨⟨k1, k2⟩, k3⟩ := hk
      have p := sorts_perm m (m + m % 2) (m + m % 2 - 1).toNat
      refine ⟨?_, fun r hr => ?_, p.nodup_iff.mpr (nd_map (nd1_ok k2).1), by rw [p.length_eq]; exact k3, ?_⟩
      · rw [if_pos (by omega)]
        simp [rows]; omega
      · obtain ⟨j, hj, rfl⟩ := List.mem_map.mp hr
        exact good_row m _ (k1 _ (List.mem_map.mpr ⟨j, hj, rfl⟩))
      · refine ⟨by simp [rows]; omega, ?_⟩
        have e := p.length_eq
        have : m * (m - 1) / 2 < 10000 := by
          have : m * (m - 1) ≤ 60 * 60 := Int.mul_le_mul (by omega) (by omega) (by omega) (by omega)
          omega
        omega
theorem keeps : Keeps fn_law := keeps_of good
end K66
end Hu
open PySem.W PySem PyProof.Rows
set_option maxRecDepth 90000 in
set_option maxHeartbeats 0 in
theorem PySem.Challenge.cw_huedties_k66_rounds_of_many_holds : PySem.Challenge.rw_huedties_k66_rounds_of_many.Holds := by
  w_on; o_law
  k_head; (case hw => w_witness2)
  k_fill
  refine Hu.walk (l := PySem.Challenge.rw_huedties_k66_rounds_of_many) (k := 3) (x := "_law_script") rfl rfl ⟨rfl, by decide, by decide⟩ (fun w h Y => PySem.W.kIn_of Y) ?F
  case F =>
    intro w mg fa h KX G hmg
    refine' Hu.K66.all_mk KX G hmg ?a1 ?l1 ?c1 ?k1 ?a2 ?l2 ?c2 ?k2 ?a3 ?l3 ?c3 ?k3 ?a4 ?l4 ?c4 ?k4 ?a5 ?l5 ?c5 ?k5 ?a6 ?l6 ?c6 ?k6 ?z_range ?z_max ?z_min ?z_sorted ?z_len ?z_abs ?z_int ?z_isinstance ?z_bool ?z_list ?z_tuple ?z_all ?z_set Hu.K66.keeps
    (case a1 => k_is)
    (case l1 => k_is)
    (case c1 => k_is)
    (case k1 => k_is)
    (case a2 => k_is)
    (case l2 => k_is)
    (case c2 => k_is)
    (case k2 => k_is)
    (case a3 => k_is)
    (case l3 => k_is)
    (case c3 => k_is)
    (case k3 => k_is)
    (case a4 => k_is)
    (case l4 => k_is)
    (case c4 => k_is)
    (case k4 => k_is)
    (case a5 => k_is)
    (case l5 => k_is)
    (case c5 => k_is)
    (case k5 => k_is)
    (case a6 => k_is)
    (case l6 => k_is)
    (case c6 => k_is)
    (case k6 => k_is)
    (case z_range => k_is)
    (case z_max => k_is)
    (case z_min => k_is)
    (case z_sorted => k_is)
    (case z_len => k_is)
    (case z_abs => k_is)
    (case z_int => k_is)
    (case z_isinstance => k_is)
    (case z_bool => k_is)
    (case z_list => k_is)
    (case z_tuple => k_is)
    (case z_all => k_is)
    (case z_set => k_is)
