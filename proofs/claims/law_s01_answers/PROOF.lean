import PyProof.Rows.All
import Wide.All
import OpenK.AllK
import Wide.FinOn
import Open.SpecLaws
import KE.OsGo
import KE.KDictKeyed
import HandS.ForSpec
import HandS.Dict
import HandS.Comp
import HandS.Deep
import HandS.TupAny
import HandS.ExcInit
import HandS.ExcField
import HandS.CallSlots
import PySem.Challenge.RW_linescriptsworks_s01_answers
set_option Elab.async false
set_option linter.all false
set_option maxRecDepth 100000
set_option maxHeartbeats 8000000
/-! The plain law of the kinds: a search by levels, its first lines. -/
namespace Bfs
open VasedBase

/-- of a list: the first ones of each value of f, but for the values seen -/
def firsts {α κ : Type} [DecidableEq κ] (f : α → κ) : List κ → List α → List α
  | _, [] => []
  | S, x :: r => if f x ∈ S then firsts f S r else x :: firsts f (f x :: S) r

section
variable {α κ μ : Type} [DecidableEq κ] [DecidableEq μ] {f : α → κ} {g : α → μ}

theorem firsts_congr : ∀ (l : List α) (S T : List κ), (∀ k, k ∈ S ↔ k ∈ T) → firsts f S l = firsts f T l
  | [], _, _, _ => rfl
  | x :: r, S, T, h => by
    by_cases c : f x ∈ S
    · rw [firsts, firsts, if_pos c, if_pos ((h _).mp c)]
      exact firsts_congr r S T h
    · have c' : f x ∉ T := fun z => c ((h _).mpr z)
      rw [firsts, firsts, if_neg c, if_neg c']
      congr 1
      refine firsts_congr r _ _ fun k => ?_
      rw [List.mem_cons, List.mem_cons, h k]

theorem firsts_append : ∀ (l m : List α) (S : List κ), firsts f S (l ++ m) = firsts f S l ++ firsts f (S ++ l.map f) m
  | [], m, S => by simp [firsts]
  | x :: r, m, S => by
    by_cases c : f x ∈ S
    · rw [List.cons_append, firsts, firsts, if_pos c, if_pos c, firsts_append r m S]
      congr 1
      refine firsts_congr _ _ _ fun k => ?_
      simp only [List.mem_append, List.map_cons, List.mem_cons]
      constructor
      · rintro (h | h)
        · exact .inl h
        · exact .inr (.inr h)
      · rintro (h | h | h)
        · exact .inl h
        · subst h; exact .inl c
        · exact .inr h
    · rw [List.cons_append, firsts, firsts, if_neg c, if_neg c, firsts_append r m, List.cons_append]
      congr 2
      refine firsts_congr _ _ _ fun k => ?_
      simp only [List.mem_append, List.map_cons, List.mem_cons]
      grind

theorem firsts_skip : ∀ (l m : List α) (S : List κ), (∀ x ∈ l, f x ∈ S) → firsts f S (l ++ m) = firsts f S m
  | [], _, _, _ => rfl
  | x :: r, m, S, h => by
    rw [List.cons_append, firsts, if_pos (h x List.mem_cons_self)]
    exact firsts_skip r m S fun y hy => h y (List.mem_cons_of_mem _ hy)

theorem firsts_sub : ∀ (l : List α) (S : List κ) (x : α), x ∈ firsts f S l → x ∈ l ∧ f x ∉ S
  | [], _, _, h => by simp [firsts] at h
  | a :: r, S, x, h => by
    by_cases c : f a ∈ S
    · rw [firsts, if_pos c] at h
      have q := firsts_sub r S x h
      exact ⟨List.mem_cons_of_mem _ q.1, q.2⟩
    · rw [firsts, if_neg c] at h
      rcases List.mem_cons.mp h with rfl | h
      · exact ⟨List.mem_cons_self, c⟩
      · have q := firsts_sub r _ x h
        exact ⟨List.mem_cons_of_mem _ q.1, fun z => q.2 (List.mem_cons_of_mem _ z)⟩

theorem firsts_nodup : ∀ (l : List α) (S : List κ), ((firsts f S l).map f).Nodup
  | [], _ => by simp [firsts]
  | a :: r, S => by
    by_cases c : f a ∈ S
    · rw [firsts, if_pos c]
      exact firsts_nodup r S
    · rw [firsts, if_neg c, List.map_cons, List.nodup_cons]
      refine ⟨fun z => ?_, firsts_nodup r _⟩
      obtain ⟨x, hx, e⟩ := List.mem_map.mp z
      exact (firsts_sub r _ x hx).2 (by rw [e]; exact List.mem_cons_self)

/-- what a coarser f picks of what a finer one picked -/
theorem firsts_firsts (hg : ∀ x y, f x = f y → g x = g y) : ∀ (l : List α) (S : List κ) (T : List μ), (∀ x, f x ∈ S → g x ∈ T) → firsts g T (firsts f S l) = firsts g T l
  | [], _, _, _ => rfl
  | a :: r, S, T, h => by
    by_cases c : f a ∈ S
    · rw [firsts, if_pos c, firsts_firsts hg r S T h]
      show _ = firsts g T (a :: r)
      rw [firsts, if_pos (h a c)]
    · rw [firsts, if_neg c]
      show firsts g T (a :: firsts f (f a :: S) r) = firsts g T (a :: r)
      by_cases d : g a ∈ T
      · rw [firsts, firsts, if_pos d, if_pos d]
        refine firsts_firsts hg r _ T fun x hx => ?_
        rcases List.mem_cons.mp hx with e | hx
        · rw [hg x a e]; exact d
        · exact h x hx
      · rw [firsts, firsts, if_neg d, if_neg d]
        congr 1
        refine firsts_firsts hg r _ _ fun x hx => ?_
        rcases List.mem_cons.mp hx with e | hx
        · rw [hg x a e]; exact List.mem_cons_self
        · exact List.mem_cons_of_mem _ (h x hx)

/-- what is not the first of its value may be left out -/
theorem firsts_filter (p : α → Bool) : ∀ (l : List α) (S : List κ), l.Nodup → (∀ x ∈ l, p x = false → f x ∈ S ∨ ∃ y, [y, x].Sublist l ∧ f y = f x) → firsts f S (l.filter p) = firsts f S l
  | [], _, _, _ => rfl
  | a :: r, S, nd, h => by
    have nd' := List.nodup_cons.mp nd
    have key : ∀ T : List κ, (∀ k, k ∈ S → k ∈ T) → f a ∈ T → firsts f T (r.filter p) = firsts f T r := fun T hT ha => by
      refine firsts_filter p r T nd'.2 fun x hx hp => ?_
      rcases h x (List.mem_cons_of_mem _ hx) hp with q | ⟨y, q, e⟩
      · exact .inl (hT _ q)
      · rcases List.sublist_cons_iff.mp q with q | ⟨t, e1, q⟩
        · exact .inr ⟨y, q, e⟩
        · have e2 : y = a := (List.cons.inj e1).1
          subst e2
          rw [← e]
          exact .inl ha
    by_cases c : p a = true
    · rw [List.filter_cons_of_pos c]
      by_cases d : f a ∈ S
      · rw [firsts, firsts, if_pos d, if_pos d]
        exact key S (fun _ z => z) d
      · rw [firsts, firsts, if_neg d, if_neg d, key (f a :: S) (fun k hk => List.mem_cons_of_mem _ hk) List.mem_cons_self]
    · have c' : p a = false := by simpa using c
      rw [List.filter_cons_of_neg c]
      rcases h a List.mem_cons_self c' with d | ⟨y, q, e⟩
      · rw [firsts, if_pos d]
        exact key S (fun _ z => z) d
      · exfalso
        have q2 := List.sublist_cons_iff.mp q
        rcases q2 with q2 | ⟨t, e1, q2⟩
        · exact nd'.1 (q2.subset (List.mem_cons_of_mem _ List.mem_cons_self))
        · have e2 := List.cons.inj e1
          rw [← e2.2] at q2
          exact nd'.1 (q2.subset List.mem_cons_self)
end

/-! ### lines by levels -/
abbrev L := List UInt8
def ext (A : List UInt8) (x : L) : List L := A.map fun c => x ++ [c]
/-- all lines of a length over an alphabet -/
def lvl (A : List UInt8) : Nat → List L
  | 0 => [[]]
  | n + 1 => (lvl A n).flatMap (ext A)
/-- all lines up to a length -/
def upto (A : List UInt8) : Nat → List L
  | 0 => lvl A 0
  | n + 1 => upto A n ++ lvl A (n + 1)

section
variable {κ : Type} [DecidableEq κ] {f : L → κ} {A : List UInt8}
theorem firsts_ext (hf : ∀ x y c, f x = f y → f (x ++ [c]) = f (y ++ [c])) : ∀ (l : List L) (S0 S : List κ), (∀ x, f x ∈ S0 → ∀ c ∈ A, f (x ++ [c]) ∈ S) →
    firsts f S ((firsts f S0 l).flatMap (ext A)) = firsts f S (l.flatMap (ext A))
  | [], _, _, _ => rfl
  | a :: r, S0, S, h => by
    by_cases c : f a ∈ S0
    · rw [firsts, if_pos c, firsts_ext hf r S0 S h, List.flatMap_cons, firsts_skip]
      intro x hx
      obtain ⟨b, hb, rfl⟩ := List.mem_map.mp hx
      exact h a c b hb
    · rw [firsts, if_neg c, List.flatMap_cons, List.flatMap_cons, firsts_append, firsts_append]
      congr 1
      refine firsts_ext hf r _ _ fun x hx b hb => ?_
      rcases List.mem_cons.mp hx with e | hx
      · refine List.mem_append_right _ ?_
        rw [hf x a b e]
        exact List.mem_map.mpr ⟨a ++ [b], List.mem_map.mpr ⟨b, hb, rfl⟩, rfl⟩
      · exact List.mem_append_left _ (h x hx b hb)

/-- a level's first ones, by the level before -/
def levF (f : L → κ) (A : List UInt8) : Nat → List κ × List L
  | 0 => ([f []], [[]])
  | n + 1 => let p := levF f A n
    let q := firsts f p.1 (p.2.flatMap (ext A))
    (p.1 ++ (p.2.flatMap (ext A)).map f, q)
/-- all of them -/
def allF (f : L → κ) (A : List UInt8) : Nat → List L
  | 0 => [[]]
  | n + 1 => allF f A n ++ (levF f A (n + 1)).2

theorem mem_lvl_succ {x : L} {c : UInt8} (hc : c ∈ A) {n : Nat} (hx : x ∈ lvl A n) : x ++ [c] ∈ lvl A (n + 1) :=
  List.mem_flatMap.mpr ⟨x, hx, List.mem_map.mpr ⟨c, hc, rfl⟩⟩
theorem mem_upto {x : L} : ∀ {n : Nat}, x ∈ upto A n ↔ ∃ m, m ≤ n ∧ x ∈ lvl A m
  | 0 => by
    constructor
    · exact fun h => ⟨0, Nat.le_refl _, h⟩
    · rintro ⟨m, hm, h⟩
      have e : m = 0 := Nat.le_zero.mp hm
      subst e
      exact h
  | n + 1 => by
    rw [upto, List.mem_append, mem_upto]
    constructor
    · rintro (⟨m, hm, h⟩ | h)
      · exact ⟨m, Nat.le_succ_of_le hm, h⟩
      · exact ⟨n + 1, Nat.le_refl _, h⟩
    · rintro ⟨m, hm, h⟩
      rcases Nat.le_succ_iff.mp hm with hm | rfl
      · exact .inl ⟨m, hm, h⟩
      · exact .inr h
/-- the keys of the first ones are all keys -/
theorem keys_firsts : ∀ (l : List L) (S : List κ) (k : κ), k ∈ S ++ (firsts f S l).map f ↔ k ∈ S ++ l.map f
  | [], S, k => Iff.rfl
  | a :: r, S, k => by
    by_cases c : f a ∈ S
    · rw [firsts, if_pos c, keys_firsts r S k]
      simp only [List.mem_append, List.map_cons, List.mem_cons]
      constructor
      · rintro (h | h)
        · exact .inl h
        · exact .inr (.inr h)
      · rintro (h | h | h)
        · exact .inl h
        · subst h; exact .inl c
        · exact .inr h
    · rw [firsts, if_neg c]
      have q := keys_firsts r (f a :: S) k
      simp only [List.mem_append, List.map_cons, List.mem_cons] at q ⊢
      constructor
      · rintro (h | h | h)
        · exact .inl h
        · exact .inr (.inl h)
        · rcases q.mp (.inr h) with (h | h) | h
          · exact .inr (.inl h)
          · exact .inl h
          · exact .inr (.inr h)
      · rintro (h | h | h)
        · exact .inl h
        · exact .inr (.inl h)
        · rcases q.mpr (.inr h) with (h | h) | h
          · exact .inr (.inl h)
          · exact .inl h
          · exact .inr (.inr h)

theorem lev_inv (hf : ∀ x y c, f x = f y → f (x ++ [c]) = f (y ++ [c])) : ∀ n : Nat,
    (∀ k, k ∈ (levF f A n).1 ↔ k ∈ (upto A n).map f) ∧ (∃ S0 : List κ, (levF f A n).2 = firsts f S0 (lvl A n) ∧ (∀ x, f x ∈ S0 → ∀ c ∈ A, f (x ++ [c]) ∈ (levF f A n).1)) ∧ allF f A n = firsts f [] (upto A n)
  | 0 => by
    refine ⟨fun k => Iff.rfl, ⟨[], rfl, fun x hx => by simp at hx⟩, rfl⟩
  | n + 1 => by
    obtain ⟨h1, ⟨S0, h2, h3⟩, h4⟩ := lev_inv hf n
    have e : firsts f (levF f A n).1 ((levF f A n).2.flatMap (ext A)) = firsts f (levF f A n).1 (lvl A (n + 1)) := by
      rw [h2]
      exact firsts_ext hf _ _ _ h3
    have k1 : ∀ k, k ∈ (levF f A (n + 1)).1 ↔ k ∈ (upto A (n + 1)).map f := fun k => by
      show k ∈ (levF f A n).1 ++ ((levF f A n).2.flatMap (ext A)).map f ↔ _
      rw [← keys_firsts, e, keys_firsts, upto, List.map_append, List.mem_append, List.mem_append, h1]
    refine ⟨k1, ⟨(levF f A n).1, e, fun x hx c hc => ?_⟩, ?_⟩
    · rw [k1]
      obtain ⟨y, hy, ey⟩ := List.mem_map.mp ((h1 _).mp hx)
      obtain ⟨m, hm, hy⟩ := mem_upto.mp hy
      refine List.mem_map.mpr ⟨y ++ [c], mem_upto.mpr ⟨m + 1, Nat.succ_le_succ hm, mem_lvl_succ hc hy⟩, ?_⟩
      exact hf _ _ _ ey
    · show allF f A n ++ firsts f (levF f A n).1 ((levF f A n).2.flatMap (ext A)) = firsts f [] (upto A n ++ lvl A (n + 1))
      rw [firsts_append, h4, e]
      congr 1
      refine firsts_congr _ _ _ fun k => ?_
      rw [List.nil_append]
      exact h1 k

/-- THE SEARCH: what is found by levels are the first ones of all lines -/
theorem allF_eq (hf : ∀ x y c, f x = f y → f (x ++ [c]) = f (y ++ [c])) (n : Nat) : allF f A n = firsts f [] (upto A n) := (lev_inv hf n).2.2

/-! ### a smaller alphabet -/
theorem lvl_filter (p : UInt8 → Bool) : ∀ n, lvl (A.filter p) n = (lvl A n).filter fun x => x.all p
  | 0 => rfl
  | n + 1 => by
    show (lvl (A.filter p) n).flatMap (ext (A.filter p)) = ((lvl A n).flatMap (ext A)).filter _
    rw [lvl_filter p n]
    generalize lvl A n = l
    induction l with
    | nil => rfl
    | cons x r ih =>
      have e : (ext A x).filter (fun x => x.all p) = if x.all p = true then ext (A.filter p) x else [] := by
        unfold ext
        rw [List.filter_map]
        by_cases c : x.all p = true
        · rw [if_pos c]
          congr 1
          refine List.filter_congr fun b _ => ?_
          simp [Function.comp, c]
        · rw [if_neg c]
          have : (A.filter ((fun x : L => x.all p) ∘ fun c => x ++ [c])) = [] := by
            rw [List.filter_eq_nil_iff]
            intro b _ h
            simp only [Function.comp, List.all_append, Bool.and_eq_true] at h
            exact c h.1
          rw [this]
          rfl
      rw [List.flatMap_cons, List.filter_append, e, ← ih]
      by_cases c : x.all p = true
      · rw [if_pos c, List.filter_cons, if_pos c, List.flatMap_cons]
      · rw [if_neg c, List.filter_cons, if_neg c, List.nil_append]
theorem upto_filter (p : UInt8 → Bool) : ∀ n, upto (A.filter p) n = (upto A n).filter fun x => x.all p
  | 0 => lvl_filter p 0
  | n + 1 => by
    rw [upto, upto, upto_filter p n, lvl_filter p (n + 1), List.filter_append]
theorem len_lvl {x : L} : ∀ {n : Nat}, x ∈ lvl A n → x.length = n
  | 0, h => by
    have e : x = [] := by simpa [lvl] using h
    rw [e]
    rfl
  | n + 1, h => by
    obtain ⟨y, hy, hx⟩ := List.mem_flatMap.mp h
    obtain ⟨c, _, rfl⟩ := List.mem_map.mp hx
    rw [List.length_append, len_lvl hy]
    rfl
theorem lvl_nodup (hA : A.Nodup) : ∀ n, (lvl A n).Nodup
  | 0 => by simp [lvl]
  | n + 1 => by
    unfold lvl
    have ih := lvl_nodup hA n
    unfold List.Nodup at ih ⊢
    rw [List.pairwise_flatMap]
    refine ⟨fun x _ => ?_, ih.imp fun {x y} hxy u hu v hv e => ?_⟩
    · unfold ext
      rw [List.pairwise_map]
      exact List.Pairwise.imp (fun {a b} hab e => hab (List.cons.inj (List.append_cancel_left e)).1) hA
    · obtain ⟨c, _, rfl⟩ := List.mem_map.mp hu
      obtain ⟨d, _, rfl⟩ := List.mem_map.mp hv
      exact hxy (List.append_inj' e rfl).1
theorem upto_nodup (hA : A.Nodup) : ∀ n, (upto A n).Nodup
  | 0 => lvl_nodup hA 0
  | n + 1 => by
    rw [upto, List.nodup_append]
    refine ⟨upto_nodup hA n, lvl_nodup hA (n + 1), fun x hx y hy e => ?_⟩
    subst e
    obtain ⟨m, hm, h⟩ := mem_upto.mp hx
    have a := len_lvl h
    have b := len_lvl hy
    omega
theorem lvl_sub_upto {n m : Nat} (h : m ≤ n) : (lvl A m).Sublist (upto A n) := by
  induction n with
  | zero =>
    have e : m = 0 := Nat.le_zero.mp h
    subst e
    exact List.Sublist.refl _
  | succ n ih =>
    rcases Nat.le_succ_iff.mp h with h | rfl
    · exact (ih h).trans (List.sublist_append_left _ _)
    · exact List.sublist_append_right _ _
theorem sub_flat {α β : Type} (f : α → List β) : ∀ {l m : List α}, l.Sublist m → (l.flatMap f).Sublist (m.flatMap f)
  | _, _, .slnil => List.Sublist.refl _
  | _, _, .cons a h => by
    rw [List.flatMap_cons]
    exact (sub_flat f h).trans (List.sublist_append_right _ _)
  | _, _, .cons_cons a h => by
    rw [List.flatMap_cons, List.flatMap_cons]
    exact List.Sublist.append (List.Sublist.refl _) (sub_flat f h)
/-- a map of letters that brings each to itself or ahead brings each line to itself or ahead -/
theorem lvl_ahead {ρ : UInt8 → UInt8} (h : ∀ c ∈ A, ρ c = c ∨ [ρ c, c].Sublist A) : ∀ (n : Nat) (x : L), x ∈ lvl A n → x.map ρ = x ∨ [x.map ρ, x].Sublist (lvl A n)
  | 0, x, hx => by
    have e : x = [] := by simpa [lvl] using hx
    subst e
    exact .inl rfl
  | n + 1, x, hx => by
    obtain ⟨y, hy, hx⟩ := List.mem_flatMap.mp hx
    obtain ⟨c, hc, rfl⟩ := List.mem_map.mp hx
    have e0 : (y ++ [c]).map ρ = y.map ρ ++ [ρ c] := by simp
    rw [e0]
    have hρ : ρ c ∈ A := by
      rcases h c hc with e | e
      · rw [e]; exact hc
      · exact e.subset List.mem_cons_self
    rcases lvl_ahead h n y hy with e | e
    · rw [e]
      rcases h c hc with e2 | e2
      · exact .inl (by rw [e2])
      · refine .inr ?_
        have s1 : (ext A y).Sublist (lvl A (n + 1)) := by
          have := sub_flat (ext A) (List.singleton_sublist.mpr hy)
          simpa [lvl] using this
        exact (e2.map (fun c => y ++ [c])).trans s1
    · refine .inr ?_
      have s1 : ([y.map ρ, y].flatMap (ext A)).Sublist (lvl A (n + 1)) := sub_flat (ext A) e
      refine List.Sublist.trans ?_ s1
      show [y.map ρ ++ [ρ c], y ++ [c]].Sublist (ext A (y.map ρ) ++ (ext A y ++ []))
      refine List.Sublist.append (l₁ := [y.map ρ ++ [ρ c]]) (r₁ := [y ++ [c]]) ?_ ?_
      · exact List.singleton_sublist.mpr (List.mem_map.mpr ⟨_, hρ, rfl⟩)
      · rw [List.append_nil]
        exact List.singleton_sublist.mpr (List.mem_map.mpr ⟨_, hc, rfl⟩)
/-- THE ALPHABET: letters that may be exchanged for earlier ones are not needed -/
theorem firsts_alphabet {ρ : UInt8 → UInt8} {p : UInt8 → Bool} (hA : A.Nodup) (h : ∀ c ∈ A, ρ c = c ∨ [ρ c, c].Sublist A) (hp : ∀ c, p c = false → ρ c ≠ c) (hf : ∀ x, f (x.map ρ) = f x) (n : Nat) :
    firsts f [] (upto (A.filter p) n) = firsts f [] (upto A n) := by
  rw [upto_filter]
  refine firsts_filter _ _ _ (upto_nodup hA n) fun x hx hpx => ?_
  obtain ⟨m, hm, hx⟩ := mem_upto.mp hx
  rcases lvl_ahead h m x hx with e | e
  · exfalso
    have hall : ∀ c ∈ x, ρ c = c := by
      have := List.map_eq_iff.mp (e.trans (List.map_id x).symm)
      intro c hc
      obtain ⟨i, hi, rfl⟩ := List.getElem_of_mem hc
      have q := congrArg (fun l => l[i]?) e
      simp only [List.getElem?_map, List.getElem?_eq_getElem hi, Option.map_some, Option.some.injEq] at q
      exact q
    have : x.all p = true := List.all_eq_true.mpr fun c hc => by
      cases q : p c with
      | true => rfl
      | false => exact absurd (hall c hc) (hp c q)
    rw [this] at hpx
    cases hpx
  · exact .inr ⟨x.map ρ, e.trans (lvl_sub_upto hm), hf x⟩
end
end Bfs

/-! The program's kinds are the specification's. -/
namespace Bfs
open VasedBase Vasedb

section
variable {κ : Type} [DecidableEq κ]
/-- all found up to a length, and those of this length -/
def pl (f : L → κ) (A : List UInt8) : Nat → List L × List L
  | 0 => ([[]], [[]])
  | n + 1 => ((pl f A n).1 ++ firsts f ((pl f A n).1.map f) ((pl f A n).2.flatMap (ext A)), firsts f ((pl f A n).1.map f) ((pl f A n).2.flatMap (ext A)))
theorem pl_inv {f : L → κ} {A : List UInt8} (hf : ∀ x y c, f x = f y → f (x ++ [c]) = f (y ++ [c])) : ∀ n, (pl f A n).1 = allF f A n ∧ (pl f A n).2 = (levF f A n).2
  | 0 => ⟨rfl, rfl⟩
  | n + 1 => by
    obtain ⟨h1, h2⟩ := pl_inv hf n
    have e : firsts f ((pl f A n).1.map f) ((pl f A n).2.flatMap (ext A)) = (levF f A (n + 1)).2 := by
      show _ = firsts f (levF f A n).1 ((levF f A n).2.flatMap (ext A))
      rw [h2]
      refine firsts_congr _ _ _ fun k => ?_
      rw [h1, allF_eq hf, (lev_inv hf n).1]
      have q := keys_firsts (f := f) (upto A n) [] k
      simpa using q
    refine ⟨?_, e⟩
    show (pl f A n).1 ++ firsts f ((pl f A n).1.map f) ((pl f A n).2.flatMap (ext A)) = allF f A n ++ _
    rw [e, h1]
theorem pl_all {f : L → κ} {A : List UInt8} (hf : ∀ x y c, f x = f y → f (x ++ [c]) = f (y ++ [c])) (n : Nat) : (pl f A n).1 = firsts f [] (upto A n) := by
  rw [(pl_inv hf n).1, allF_eq hf]
theorem pl_len2 {f : L → κ} {A : List UInt8} : ∀ n, (pl f A n).2.length ≤ (pl f A n).1.length
  | 0 => Nat.le_refl _
  | n + 1 => by
    show (firsts f _ _).length ≤ ((pl f A n).1 ++ firsts f _ _).length
    rw [List.length_append]
    exact Nat.le_add_left _ _
end

/-! ### the longest end that begins a word -/
def lend (q : L → Bool) : L → L
  | [] => []
  | a :: r => if q (a :: r) = true then a :: r else lend q r
theorem lend_snoc {q : L → Bool} (hq : ∀ e c, q (e ++ [c]) = true → q e = true) : ∀ (x : L) (c : UInt8), lend q (x ++ [c]) = lend q (lend q x ++ [c])
  | [], _ => rfl
  | a :: r, c => by
    by_cases h : q (a :: r) = true
    · rw [lend, if_pos h]
    · have h' : ¬ q (a :: (r ++ [c])) = true := fun z => h (hq (a :: r) c z)
      have e : lend q (a :: r) = lend q r := by rw [lend, if_neg h]
      rw [e]
      show lend q (a :: (r ++ [c])) = _
      rw [lend, if_neg h']
      exact lend_snoc hq r c
theorem lend_suffix {q : L → Bool} : ∀ x : L, lend q x <:+ x
  | [] => List.suffix_refl _
  | a :: r => by
    by_cases h : q (a :: r) = true
    · rw [lend, if_pos h]
      exact List.suffix_refl _
    · rw [lend, if_neg h]
      exact (lend_suffix r).trans (List.suffix_cons a r)
theorem suffix_lend {q : L → Bool} {e : L} (he : q e = true) : ∀ x : L, e <:+ x → e <:+ lend q x
  | [], h => h
  | a :: r, h => by
    by_cases c : q (a :: r) = true
    · rw [lend, if_pos c]
      exact h
    · rw [lend, if_neg c]
      rcases List.suffix_cons_iff.mp h with rfl | h
      · exact absurd he c
      · exact suffix_lend he r h
theorem lend_q {q : L → Bool} : ∀ x : L, lend q x = [] ∨ q (lend q x) = true
  | [] => .inl rfl
  | a :: r => by
    by_cases c : q (a :: r) = true
    · rw [lend, if_pos c]
      exact .inr c
    · rw [lend, if_neg c]
      exact lend_q r
theorem lend_find (q : L → Bool) : ∀ x : L, (((List.range (x.length + 1)).map fun k => x.drop k).find? q).getD [] = lend q x
  | [] => by
    show ([([] : L)].find? q).getD [] = []
    by_cases h : q [] = true
    · simp [h]
    · simp [h]
  | a :: r => by
    have ih := lend_find q r
    rw [List.length_cons, List.range_succ_eq_map, List.map_cons, List.map_map, List.find?_cons]
    show ((match q (a :: r) with | true => some (a :: r) | false => _) : Option L).getD [] = _
    by_cases h : q (a :: r) = true
    · rw [h, lend, if_pos h] <;> rfl
    · have h' : q (a :: r) = false := by simpa using h
      rw [h', lend, if_neg h]
      exact ih
/-- the program looks at ends that are not empty -/
theorem lend_find1 (q : L → Bool) : ∀ x : L, (((List.range x.length).map fun k => x.drop k).find? q).getD [] = lend q x
  | [] => rfl
  | a :: r => by
    have ih := lend_find1 q r
    rw [List.length_cons, List.range_succ_eq_map, List.map_cons, List.map_map, List.find?_cons]
    show ((match q (a :: r) with | true => some (a :: r) | false => _) : Option L).getD [] = _
    by_cases h : q (a :: r) = true
    · rw [h, lend, if_pos h] <;> rfl
    · have h' : q (a :: r) = false := by simpa using h
      rw [h', lend, if_neg h]
      exact ih

theorem begins_iff (w x : L) : Vaseda.begins w x = true ↔ w <+: x := by
  unfold Vaseda.begins
  rw [beq_iff_eq, eq_comm, ← List.prefix_iff_eq_take]
theorem hasIn_iff (w x : L) : Vaseda.hasIn w x = true ↔ w <:+: x := by
  unfold Vaseda.hasIn
  rw [List.any_eq_true]
  constructor
  · rintro ⟨o, _, h⟩
    rw [Bool.and_eq_true] at h
    exact (begins_iff _ _).mp h.1 |>.isInfix.trans (List.drop_suffix o x).isInfix
  · rintro ⟨s, t, e⟩
    refine ⟨s.length, ?_, ?_⟩
    · rw [List.mem_range, ← e]
      simp only [List.length_append]
      omega
    · rw [Bool.and_eq_true]
      refine ⟨(begins_iff _ _).mpr ?_, decide_eq_true ?_⟩
      · rw [← e, List.append_assoc, List.drop_left]
        exact List.prefix_append _ _
      · rw [← e]
        simp only [List.length_append]
        omega

/-- a way to tell the ends that matter -/
structure QOk (hs : List Bytes) (q : L → Bool) : Prop where
  cut : ∀ e c, q (e ++ [c]) = true → q e = true
  pre : ∀ w ∈ hs, ∀ (e : L) (c : UInt8), w = e ++ [c] → q e = true
def keyq (hs : List Bytes) (q : L → Bool) (x : L) : List Bool × L := (mask hs x, lend q x)
theorem mask_snoc {hs : List Bytes} {q : L → Bool} (Q : QOk hs q) (x : L) (c : UInt8) {w : Bytes} (hw : w ∈ hs) :
    Vaseda.hasIn w (x ++ [c]) = (Vaseda.hasIn w x || decide (w <:+ lend q x ++ [c])) := by
  rw [Bool.eq_iff_iff, Bool.or_eq_true, hasIn_iff, hasIn_iff, decide_eq_true_iff]
  constructor
  · intro h
    rcases List.infix_concat_iff.mp h with h | h
    · refine .inr ?_
      rcases List.eq_nil_or_concat w with e | ⟨e, b, hwe⟩
      · rw [e]; exact List.nil_suffix
      · have hwe : w = e ++ [b] := by simpa using hwe
        have qe := Q.pre w hw e b hwe
        rw [hwe] at h ⊢
        have hb := h.getLast (by simp)
        obtain ⟨t, ht⟩ := h
        have q1 : t ++ e = x ∧ b = c := by
          rw [← List.append_assoc] at ht
          have := List.append_inj' ht rfl
          exact ⟨this.1, (List.cons.inj this.2).1⟩
        obtain ⟨q1, rfl⟩ := q1
        obtain ⟨u, hu⟩ := suffix_lend qe x ⟨t, q1⟩
        exact ⟨u, by rw [← List.append_assoc, hu]⟩
    · exact .inl h
  · rintro (h | h)
    · exact h.trans (List.prefix_append x [c]).isInfix
    · obtain ⟨t, ht⟩ := lend_suffix (q := q) x
      have : lend q x ++ [c] <:+ x ++ [c] := ⟨t, by rw [← List.append_assoc, ht]⟩
      exact (h.trans this).isInfix
theorem keyq_congr {hs : List Bytes} {q : L → Bool} (Q : QOk hs q) (x y : L) (c : UInt8) (h : keyq hs q x = keyq hs q y) : keyq hs q (x ++ [c]) = keyq hs q (y ++ [c]) := by
  have h1 : mask hs x = mask hs y := congrArg Prod.fst h
  have h2 : lend q x = lend q y := congrArg Prod.snd h
  unfold keyq
  rw [lend_snoc Q.cut x c, lend_snoc Q.cut y c, h2]
  congr 1
  unfold mask at h1 ⊢
  refine List.map_congr_left fun w hw => ?_
  rw [mask_snoc Q x c hw, mask_snoc Q y c hw, h2, List.map_inj_left.mp h1 w hw]

/-- the specification's ends | the program's -/
def qS (hs : List Bytes) (e : L) : Bool := hs.any fun w => decide (e.length < w.length) && Vaseda.begins e w
def qP (hs : List Bytes) (e : L) : Bool := hs.any fun w => Vaseda.begins e w
theorem qS_ok (hs : List Bytes) : QOk hs (qS hs) where
  cut := fun e c h => by
    unfold qS at h ⊢
    rw [List.any_eq_true] at h ⊢
    obtain ⟨w, hw, h⟩ := h
    rw [Bool.and_eq_true, begins_iff, decide_eq_true_iff, List.length_append] at h
    refine ⟨w, hw, ?_⟩
    rw [Bool.and_eq_true, begins_iff, decide_eq_true_iff]
    exact ⟨by have := h.1; simp only [List.length_cons, List.length_nil] at this; omega, (List.prefix_append e [c]).trans h.2⟩
  pre := fun w hw e c h => by
    unfold qS
    rw [List.any_eq_true]
    refine ⟨w, hw, ?_⟩
    rw [Bool.and_eq_true, begins_iff, decide_eq_true_iff, h, List.length_append]
    exact ⟨by simp, List.prefix_append e [c]⟩
theorem qP_ok (hs : List Bytes) : QOk hs (qP hs) where
  cut := fun e c h => by
    unfold qP at h ⊢
    rw [List.any_eq_true] at h ⊢
    obtain ⟨w, hw, h⟩ := h
    rw [begins_iff] at h
    exact ⟨w, hw, (begins_iff _ _).mpr ((List.prefix_append e [c]).trans h)⟩
  pre := fun w hw e c h => by
    unfold qP
    rw [List.any_eq_true]
    exact ⟨w, hw, (begins_iff _ _).mpr (by rw [h]; exact List.prefix_append e [c])⟩

/-! ### the letters -/
theorem alphabet_nodup : alphabet.Nodup := by decide +kernel
theorem alphabet_length : alphabet.length = 26 := by decide +kernel
theorem nodup_len {α : Type} [DecidableEq α] : ∀ (l m : List α), l.Nodup → (∀ x ∈ l, x ∈ m) → l.length ≤ m.length
  | [], _, _, _ => Nat.zero_le _
  | a :: r, m, nd, h => by
    have nd' := List.nodup_cons.mp nd
    have ha := h a List.mem_cons_self
    have e : (m.erase a).length = m.length - 1 := List.length_erase_of_mem ha
    have h0 : 0 < m.length := List.length_pos_of_mem ha
    have ih := nodup_len r (m.erase a) nd'.2 fun x hx => (List.mem_erase_of_ne (fun z => nd'.1 (by rw [← z]; exact hx))).mpr (h x (List.mem_cons_of_mem _ hx))
    rw [List.length_cons]
    omega
theorem free_some {hs : List Bytes} (h : (hs.map fun w => w.length).sum ≤ 16) : ∃ l1 l2, alphabet = l1 ++ freeLetter hs :: l2 ∧ (hs.any fun w => w.contains (freeLetter hs)) = false ∧ ∀ c ∈ l1, (hs.any fun w => w.contains c) = true := by
  unfold freeLetter
  cases e : alphabet.find? fun c => !hs.any fun w => w.contains c with
  | some c =>
    obtain ⟨hc, l1, l2, h1, h2⟩ := List.find?_eq_some_iff_append.mp e
    refine ⟨l1, l2, h1, ?_, fun b hb => ?_⟩
    · simpa using hc
    · simpa using h2 b hb
  | none =>
    exfalso
    rw [List.find?_eq_none] at e
    have : alphabet.length ≤ hs.flatten.length := nodup_len _ _ alphabet_nodup fun c hc => by
      have q := e c hc
      simp only [Bool.not_eq_true, Bool.not_eq_false', List.any_eq_true, List.contains_iff_mem] at q
      obtain ⟨w, hw, hm⟩ := q
      exact List.mem_flatten.mpr ⟨w, hw, hm⟩
    rw [alphabet_length, List.length_flatten] at this
    have h' : (hs.map List.length).sum ≤ 16 := h
    omega
/-- letters that no word has are as the free one -/
def rho (hs : List Bytes) (c : UInt8) : UInt8 := if (c == freeLetter hs || hs.any fun w => w.contains c) = true then c else freeLetter hs
theorem mask_rho {hs : List Bytes} (h : (hs.map fun w => w.length).sum ≤ 16) (x : L) : mask hs (x.map (rho hs)) = mask hs x := by
  obtain ⟨_, _, _, hfree, _⟩ := free_some h
  unfold mask
  refine List.map_congr_left fun w hw => ?_
  rw [Bool.eq_iff_iff, hasIn_iff, hasIn_iff]
  have same : ∀ c, c ∈ w → rho hs c = c := fun c hc => by
    unfold rho
    have : (hs.any fun w => w.contains c) = true := List.any_eq_true.mpr ⟨w, hw, by simpa using hc⟩
    rw [this, Bool.or_true, if_pos rfl]
  have back : ∀ c, rho hs c ∈ w → rho hs c = c := fun c hc => by
    unfold rho at hc ⊢
    split
    · rfl
    · rename_i hn
      rw [if_neg hn] at hc
      exfalso
      have : (hs.any fun w => w.contains (freeLetter hs)) = true := List.any_eq_true.mpr ⟨w, hw, by simpa using hc⟩
      rw [hfree] at this
      cases this
  constructor
  · rintro ⟨s, t, e⟩
    have e2 := e.symm
    rw [List.append_assoc] at e2
    obtain ⟨s', r, ex, _, er⟩ := List.map_eq_append_iff.mp e2
    obtain ⟨w', t', e3, ew, _⟩ := List.map_eq_append_iff.mp er
    have : w'.map (rho hs) = w' := by
      have q : w'.map (rho hs) = w'.map id := List.map_congr_left fun c hc => back c (by rw [← ew]; exact List.mem_map.mpr ⟨c, hc, rfl⟩)
      rw [q, List.map_id]
    rw [this] at ew
    subst ew
    exact ⟨s', t', by rw [ex, e3, List.append_assoc]⟩
  · rintro ⟨s, t, e⟩
    refine ⟨s.map (rho hs), t.map (rho hs), ?_⟩
    have q : w.map (rho hs) = w.map id := List.map_congr_left fun c hc => same c hc
    rw [List.map_id] at q
    rw [← e, List.map_append, List.map_append, q]
theorem two_sub {l1 l2 : L} {a c : UInt8} (h : c ∈ l2) : [a, c].Sublist (l1 ++ a :: l2) :=
  ((List.singleton_sublist.mpr h).cons_cons a).trans (List.sublist_append_right _ _)
theorem firsts_letters {hs : List Bytes} (h : (hs.map fun w => w.length).sum ≤ 16) (n : Nat) : firsts (mask hs) [] (upto (letters hs) n) = firsts (mask hs) [] (upto alphabet n) := by
  obtain ⟨l1, l2, ea, hfree, h1⟩ := free_some h
  unfold letters
  refine firsts_alphabet (ρ := rho hs) alphabet_nodup (fun c hc => ?_) (fun c hc e => ?_) (mask_rho h) n
  · by_cases q : (c == freeLetter hs || hs.any fun w => w.contains c) = true
    · exact .inl (by unfold rho; rw [if_pos q])
    · refine .inr ?_
      have er : rho hs c = freeLetter hs := by unfold rho; rw [if_neg q]
      rw [er, ea]
      rw [Bool.or_eq_true, not_or] at q
      rw [ea] at hc
      rcases List.mem_append.mp hc with hc | hc
      · exact absurd (h1 c hc) q.2
      · rcases List.mem_cons.mp hc with hc | hc
        · exact absurd (beq_iff_eq.mpr hc) q.1
        · exact two_sub hc
  · unfold rho at e
    rw [hc] at e
    have e' : freeLetter hs = c := by simpa using e
    rw [← e', Bool.or_eq_false_iff] at hc
    simp at hc

/-! ### the specification's search -/
theorem keyOf_congr (hs : List Bytes) (x y : L) (c : UInt8) (h : keyOf hs x = keyOf hs y) : keyOf hs (x ++ [c]) = keyOf hs (y ++ [c]) := by
  have key : ∀ z, keyOf hs z = ⟨(keyq hs (qS hs) z).2, (keyq hs (qS hs) z).1⟩ := fun z => by
    unfold keyOf keyq ending
    rw [show (fun e : L => hs.any fun w => decide (e.length < w.length) && Vaseda.begins e w) = qS hs from rfl, lend_find]
  rw [key, key] at h ⊢
  have h1 := Key.mk.inj h
  rw [keyq_congr (qS_ok hs) x y c (Prod.ext h1.2 h1.1)]
def lk (hs : List Bytes) (x : L) : Key × L := (keyOf hs x, x)
theorem any_key (hs : List Bytes) (l : List L) (k : Key) : ((l.map (lk hs)).any fun z => z.1 == k) = decide (k ∈ l.map (keyOf hs)) := by
  rw [Bool.eq_iff_iff, List.any_eq_true, decide_eq_true_iff]
  constructor
  · rintro ⟨z, hz, e⟩
    obtain ⟨x, hx, rfl⟩ := List.mem_map.mp hz
    exact List.mem_map.mpr ⟨x, hx, beq_iff_eq.mp e⟩
  · intro h
    obtain ⟨x, hx, e⟩ := List.mem_map.mp h
    exact ⟨lk hs x, List.mem_map.mpr ⟨x, hx, rfl⟩, beq_iff_eq.mpr e⟩
/-- a fold that keeps what is new -/
theorem fold_new (hs : List Bytes) : ∀ (l all new : List L), l.foldl (fun (g : Found) y => if (g.all.any fun z => z.1 == keyOf hs y) = true then g else ⟨g.all ++ [(keyOf hs y, y)], g.last ++ [y]⟩) ⟨all.map (lk hs), new⟩ =
    ⟨(all ++ firsts (keyOf hs) (all.map (keyOf hs)) l).map (lk hs), new ++ firsts (keyOf hs) (all.map (keyOf hs)) l⟩
  | [], all, new => by simp [firsts]
  | y :: r, all, new => by
    rw [List.foldl_cons, any_key]
    by_cases c : keyOf hs y ∈ all.map (keyOf hs)
    · rw [decide_eq_true c, if_pos rfl, fold_new hs r all new, firsts, if_pos c]
    · rw [decide_eq_false c, if_neg Bool.false_ne_true, firsts, if_neg c]
      have e1 : all.map (lk hs) ++ [(keyOf hs y, y)] = (all ++ [y]).map (lk hs) := by rw [List.map_append]; rfl
      rw [e1, fold_new hs r (all ++ [y]) (new ++ [y])]
      have e2 : firsts (keyOf hs) ((all ++ [y]).map (keyOf hs)) r = firsts (keyOf hs) (keyOf hs y :: all.map (keyOf hs)) r := firsts_congr _ _ _ fun k => by
        rw [List.map_append, List.mem_append, List.mem_cons]
        simp only [List.map_cons, List.map_nil, List.mem_singleton]
        exact Or.comm
      rw [e2, List.append_assoc, List.append_assoc]
      rfl
theorem longer_eq (hs : List Bytes) (all last : List L) : longer hs ⟨all.map (lk hs), last⟩ = ⟨(all ++ firsts (keyOf hs) (all.map (keyOf hs)) (last.flatMap (ext (letters hs)))).map (lk hs), firsts (keyOf hs) (all.map (keyOf hs)) (last.flatMap (ext (letters hs)))⟩ := by
  have h := fold_new hs (last.flatMap (ext (letters hs))) all []
  rw [List.nil_append] at h
  rw [← h, List.foldl_flatMap]
  unfold longer ext
  congr 1
  funext g x
  rw [List.foldl_map]
theorem found_eq (hs : List Bytes) : ∀ n, foundBy hs n = ⟨(pl (keyOf hs) (letters hs) n).1.map (lk hs), (pl (keyOf hs) (letters hs) n).2⟩
  | 0 => rfl
  | n + 1 => by
    show longer hs (foundBy hs n) = _
    rw [found_eq hs n, longer_eq]
    rfl
theorem leasts_fold (hs : List Bytes) : ∀ (l acc : List L), (l.map (lk hs)).foldl (fun l z => if (l.any fun x => mask hs x == z.1.mask) = true then l else l ++ [z.2]) acc = acc ++ firsts (mask hs) (acc.map (mask hs)) l
  | [], acc => by simp [firsts]
  | y :: r, acc => by
    rw [List.map_cons, List.foldl_cons]
    have e : (acc.any fun x => mask hs x == (lk hs y).1.mask) = decide (mask hs y ∈ acc.map (mask hs)) := by
      rw [Bool.eq_iff_iff, List.any_eq_true, decide_eq_true_iff]
      constructor
      · rintro ⟨x, hx, e⟩
        exact List.mem_map.mpr ⟨x, hx, beq_iff_eq.mp e⟩
      · intro h
        obtain ⟨x, hx, e⟩ := List.mem_map.mp h
        exact ⟨x, hx, beq_iff_eq.mpr e⟩
    rw [e]
    by_cases c : mask hs y ∈ acc.map (mask hs)
    · rw [decide_eq_true c, if_pos rfl, leasts_fold hs r acc, firsts, if_pos c]
    · rw [decide_eq_false c, if_neg Bool.false_ne_true, firsts, if_neg c]
      rw [leasts_fold hs r (acc ++ [(lk hs y).2])]
      have e2 : firsts (mask hs) ((acc ++ [(lk hs y).2]).map (mask hs)) r = firsts (mask hs) (mask hs y :: acc.map (mask hs)) r := firsts_congr _ _ _ fun k => by
        rw [List.map_append, List.mem_append, List.mem_cons]
        simp only [List.map_cons, List.map_nil, List.mem_singleton]
        exact Or.comm
      rw [e2, List.append_assoc]
      rfl
/-- what the program finds -/
def pKey (hs : List Bytes) : L → List Bool × L := keyq hs (qP hs)
def pLines (hs : List Bytes) : List L := (pl (pKey hs) alphabet 16).1
def leastsBy (hs : List Bytes) (l : List (Key × L)) : List L := l.foldl (fun l z => if (l.any fun x => mask hs x == z.1.mask) = true then l else l ++ [z.2]) []
theorem leasts_by (hs : List Bytes) (n : Nat) : leastsBy hs (foundBy hs n).all = firsts (mask hs) [] (pl (keyOf hs) (letters hs) n).1 := by
  rw [found_eq]
  exact (leasts_fold hs _ []).trans (by rw [List.nil_append, List.map_nil])
theorem leasts_n {hs : List Bytes} (h : (hs.map fun w => w.length).sum ≤ 16) (n : Nat) : leastsBy hs (foundBy hs n).all = firsts (mask hs) [] (pl (pKey hs) alphabet n).1 := by
  rw [leasts_by, pl_all (keyOf_congr hs), firsts_firsts (f := keyOf hs) (g := mask hs) (fun x y e => congrArg Key.mask e) _ _ _ (fun x hx => by simp at hx), firsts_letters h]
  have e : (pl (pKey hs) alphabet n).1 = firsts (pKey hs) [] (upto alphabet n) := pl_all (keyq_congr (qP_ok hs)) n
  rw [e, firsts_firsts (f := pKey hs) (g := mask hs) (fun x y e => congrArg Prod.fst e) _ _ _ (fun x hx => by simp at hx)]
theorem leasts_eq {hs : List Bytes} (h : (hs.map fun w => w.length).sum ≤ 16) : leasts hs = firsts (mask hs) [] (pLines hs) := leasts_n h 16

/-! ### how many there are -/
def bools : Nat → List (List Bool)
  | 0 => [[]]
  | n + 1 => (bools n).flatMap fun b => [true :: b, false :: b]
theorem mem_bools : ∀ b : List Bool, b ∈ bools b.length
  | [] => List.mem_cons_self
  | a :: r => List.mem_flatMap.mpr ⟨r, mem_bools r, by cases a <;> simp⟩
theorem len_bools : ∀ n, (bools n).length = 2 ^ n
  | 0 => rfl
  | n + 1 => by
    unfold bools
    rw [List.length_flatMap]
    simp only [List.length_cons, List.length_nil, List.map_const', List.sum_replicate_nat]
    rw [len_bools n, Nat.pow_succ]
def starts (hs : List Bytes) : List L := [] :: hs.flatMap fun w => (List.range (w.length + 1)).map fun k => w.take k
theorem len_starts (hs : List Bytes) : (starts hs).length = 1 + ((hs.map fun w => w.length).sum + hs.length) := by
  unfold starts
  rw [List.length_cons, List.length_flatMap]
  have : ∀ l : List Bytes, (l.map fun w => ((List.range (w.length + 1)).map fun k => w.take k).length).sum = (l.map fun w => w.length).sum + l.length := fun l => by
    induction l with
    | nil => rfl
    | cons a r ih =>
      simp only [List.map_cons, List.sum_cons, List.length_cons, List.length_map, List.length_range] at ih ⊢
      omega
  rw [this]
  omega
theorem mem_starts (hs : List Bytes) (x : L) : lend (qP hs) x ∈ starts hs := by
  rcases lend_q (q := qP hs) x with h | h
  · rw [h]
    exact List.mem_cons_self
  · refine List.mem_cons_of_mem _ ?_
    unfold qP at h
    obtain ⟨w, hw, hb⟩ := List.any_eq_true.mp h
    have hp := (begins_iff _ _).mp hb
    refine List.mem_flatMap.mpr ⟨w, hw, List.mem_map.mpr ⟨(lend (qP hs) x).length, ?_, ?_⟩⟩
    · rw [List.mem_range]
      exact Nat.lt_succ_of_le hp.length_le
    · exact (List.prefix_iff_eq_take.mp hp).symm
theorem pl_few {hs : List Bytes} (h4 : hs.length ≤ 4) (h : (hs.map fun w => w.length).sum ≤ 16) (n : Nat) : (pl (pKey hs) alphabet n).1.length ≤ 336 := by
  have e : (pl (pKey hs) alphabet n).1 = firsts (pKey hs) [] (upto alphabet n) := pl_all (keyq_congr (qP_ok hs)) n
  rw [e]
  have nd := firsts_nodup (f := keyq hs (qP hs)) (upto alphabet n) []
  have sub := nodup_len _ ((bools hs.length).flatMap fun b => (starts hs).map fun e => (b, e)) nd fun k hk => by
    obtain ⟨x, _, rfl⟩ := List.mem_map.mp hk
    refine List.mem_flatMap.mpr ⟨mask hs x, ?_, List.mem_map.mpr ⟨lend (qP hs) x, mem_starts hs x, rfl⟩⟩
    have e : (mask hs x).length = hs.length := List.length_map ..
    rw [← e]
    exact mem_bools _
  rw [List.length_map, List.length_flatMap] at sub
  simp only [List.length_map, List.map_const', List.sum_replicate_nat] at sub
  rw [len_bools, len_starts] at sub
  refine Nat.le_trans sub ?_
  have p : 2 ^ hs.length ≤ 16 := Nat.pow_le_pow_right (by decide) h4
  exact Nat.le_trans (Nat.mul_le_mul p (show 1 + ((hs.map fun w => w.length).sum + hs.length) ≤ 21 by omega)) (by decide)
theorem leasts_fewN {hs : List Bytes} (h4 : hs.length ≤ 4) (n : Nat) : (leastsBy hs (foundBy hs n).all).length ≤ 16 := by
  rw [leasts_by]
  have nd := firsts_nodup (f := mask hs) (pl (keyOf hs) (letters hs) n).1 []
  have sub := nodup_len _ (bools hs.length) nd fun k hk => by
    obtain ⟨x, _, rfl⟩ := List.mem_map.mp hk
    have e : (mask hs x).length = hs.length := List.length_map ..
    rw [← e]
    exact mem_bools _
  rw [List.length_map, len_bools] at sub
  exact Nat.le_trans sub (Nat.pow_le_pow_right (by decide) h4 : 2 ^ hs.length ≤ 2 ^ 4)
theorem leasts_few {hs : List Bytes} (h4 : hs.length ≤ 4) : (leasts hs).length ≤ 16 := leasts_fewN h4 16
end Bfs

/-! The lexer by places. -/
namespace Lx
open VasedBase

/-- how many at the beginning are not so -/
def tw (p : UInt8 → Bool) (l : Bytes) : Nat := (l.takeWhile fun b => !p b).length
theorem tw_le (p : UInt8 → Bool) (l : Bytes) : tw p l ≤ l.length := (List.takeWhile_sublist _).length_le
theorem tw_stop {p : UInt8 → Bool} : ∀ {l : Bytes} {i : Nat} {b : UInt8}, (∀ j c, j < i → l[j]? = some c → p c = false) → l[i]? = some b → p b = true → tw p l = i
  | [], i, b, _, h, _ => by simp at h
  | a :: r, 0, b, _, h, hb => by
    have e : a = b := by simpa using h
    subst e
    unfold tw
    rw [List.takeWhile_cons, hb] <;> rfl
  | a :: r, i + 1, b, h, hi, hb => by
    have ha : p a = false := h 0 a (Nat.succ_pos _) rfl
    have ih := tw_stop (l := r) (i := i) (b := b) (fun j c hj hc => h (j + 1) c (Nat.succ_lt_succ hj) (by simpa using hc)) (by simpa using hi) hb
    unfold tw at ih ⊢
    rw [List.takeWhile_cons, ha]
    show (List.takeWhile _ r).length + 1 = i + 1
    rw [ih]
theorem tw_all {p : UInt8 → Bool} : ∀ {l : Bytes}, (∀ (j : Nat) c, l[j]? = some c → p c = false) → tw p l = l.length
  | [], _ => rfl
  | a :: r, h => by
    have ha : p a = false := h 0 a rfl
    have ih := tw_all (l := r) fun j c hc => h (j + 1) c (by simpa using hc)
    unfold tw at ih ⊢
    rw [List.takeWhile_cons, ha]
    show (List.takeWhile _ r).length + 1 = r.length + 1
    rw [ih]

theorem token_pos {l : Bytes} {t : Tok} {n : Nat} (h : token l = some (t, n)) : 1 ≤ n ∧ n ≤ l.length := by
  unfold token at h
  cases l with
  | nil => cases h
  | cons b r =>
    dsimp only at h
    have sub : ∀ p : UInt8 → Bool, ((b :: r).takeWhile p).length ≤ (b :: r).length := fun p => (List.takeWhile_sublist _).length_le
    have one : ∀ p : UInt8 → Bool, p b = true → 1 ≤ ((b :: r).takeWhile p).length := fun p hp => by
      rw [List.takeWhile_cons, if_pos hp]
      exact Nat.succ_le_succ (Nat.zero_le _)
    split at h
    · rename_i c
      split at h
      · cases h
      · obtain ⟨-, e⟩ := Prod.mk.inj (Option.some.inj h)
        rw [← e]
        exact ⟨one _ c, sub _⟩
    · split at h
      · rename_i c
        obtain ⟨m, _, e⟩ := Option.map_eq_some_iff.mp h
        obtain ⟨-, e⟩ := Prod.mk.inj e
        rw [← e]
        exact ⟨one _ c, sub _⟩
      · split at h
        · obtain ⟨-, e⟩ := Prod.mk.inj (Option.some.inj h)
          rw [← e]
          exact ⟨Nat.le_refl _, Nat.succ_le_succ (Nat.zero_le _)⟩
        · cases h

theorem lex_fuel : ∀ (n m at_ : Nat) (l : Bytes), l.length < n → l.length < m → lex n at_ l = lex m at_ l
  | 0, _, _, _, h, _ => absurd h (Nat.not_lt_zero _)
  | _ + 1, 0, _, _, _, h => absurd h (Nat.not_lt_zero _)
  | n + 1, m + 1, at_, [], _, _ => rfl
  | n + 1, m + 1, at_, b :: r, h1, h2 => by
    rw [List.length_cons] at h1 h2
    have a1 : r.length < n := Nat.lt_of_succ_lt_succ h1
    have a2 : r.length < m := Nat.lt_of_succ_lt_succ h2
    unfold lex
    have d : (r.dropWhile (· != 10)).length ≤ r.length := (List.dropWhile_sublist _).length_le
    rw [lex_fuel n m (at_ + 1) r a1 a2, lex_fuel n m _ (r.dropWhile (· != 10)) (by omega) (by omega)]
    cases e : token (b :: r) with
    | none => rfl
    | some x =>
      have q := token_pos (n := x.2) (t := x.1) e
      have z : ((b :: r).drop x.2).length ≤ r.length := by
        rw [List.length_drop, List.length_cons]
        omega
      dsimp only
      rw [lex_fuel n m _ ((b :: r).drop x.2) (by omega) (by omega)]

/-- all tokens from a place on -/
def LX (b : Bytes) (k : Nat) : Except Fault Toks := lex (b.length + 1) k (b.drop k)
theorem drop_at {b : Bytes} {k : Nat} {c : UInt8} (h : b[k]? = some c) : b.drop k = c :: b.drop (k + 1) := by
  obtain ⟨hl, e⟩ := List.getElem?_eq_some_iff.mp h
  rw [List.drop_eq_getElem_cons hl, e]
theorem drop_at' {α : Type} {b : List α} {k : Nat} {c : α} (h : b[k]? = some c) : b.drop k = c :: b.drop (k + 1) := by
  obtain ⟨hl, e⟩ := List.getElem?_eq_some_iff.mp h
  rw [List.drop_eq_getElem_cons hl, e]
theorem lex_LX {b : Bytes} {n k : Nat} (h : (b.drop k).length < n) : lex n k (b.drop k) = LX b k := lex_fuel _ _ _ _ h (by rw [List.length_drop]; omega)
theorem LX_end {b : Bytes} {k : Nat} (h : b.length ≤ k) : LX b k = .ok [⟨k, .last⟩] := by
  unfold LX
  rw [List.drop_eq_nil_of_le h]
  rfl
theorem LX_blank {b : Bytes} {k : Nat} {c : UInt8} (h : b[k]? = some c) (hc : isBlank c = true) : LX b (k + 1) = LX b k := by
  show _ = lex (b.length + 1) k (b.drop k)
  rw [drop_at h]
  show _ = (if isBlank c = true then lex b.length (k + 1) (b.drop (k + 1)) else _)
  rw [if_pos hc]
  have := (List.getElem?_eq_some_iff.mp h).1
  exact (lex_LX (by rw [List.length_drop]; omega)).symm
/-- the first place from k on where p holds, or the end -/
def firstAt (p : UInt8 → Bool) (b : Bytes) (k : Nat) : Nat := k + tw p (b.drop k)
theorem firstAt_le {p : UInt8 → Bool} {b : Bytes} {k : Nat} (h : k ≤ b.length) : k ≤ firstAt p b k ∧ firstAt p b k ≤ b.length := by
  have := tw_le p (b.drop k)
  rw [List.length_drop] at this
  unfold firstAt
  omega
theorem LX_remark {b : Bytes} {k : Nat} (h : b[k]? = some 35) : LX b (firstAt (· == 10) b k) = LX b k := by
  have hk := (List.getElem?_eq_some_iff.mp h).1
  have e1 : firstAt (· == 10) b k = k + 1 + ((b.drop (k + 1)).takeWhile (· != 10)).length := by
    unfold firstAt tw
    rw [drop_at h, List.takeWhile_cons]
    show k + ((b.drop (k + 1)).takeWhile (· != 10)).length.succ = _
    omega
  show _ = lex (b.length + 1) k (b.drop k)
  rw [drop_at h]
  show _ = (if isBlank 35 = true then lex b.length (k + 1) (b.drop (k + 1)) else (if ((35 : UInt8) == 35) = true then lex b.length (k + 1 + ((b.drop (k + 1)).takeWhile (· != 10)).length) ((b.drop (k + 1)).dropWhile (· != 10)) else _))
  rw [if_neg (by decide), if_pos (by decide), e1]
  have e2 : (b.drop (k + 1)).dropWhile (· != 10) = b.drop (k + 1 + ((b.drop (k + 1)).takeWhile (· != 10)).length) := by
    have q : ∀ (l : Bytes), l.dropWhile (· != 10) = l.drop (l.takeWhile (· != 10)).length := fun l => by
      induction l with
      | nil => rfl
      | cons a r ih =>
        by_cases c : (a != 10) = true
        · rw [List.dropWhile_cons, if_pos c, List.takeWhile_cons, if_pos c, ih]
          rfl
        · rw [List.dropWhile_cons, if_neg c, List.takeWhile_cons, if_neg c]
          rfl
    rw [q, List.drop_drop]
  rw [e2, lex_LX]
  rw [List.length_drop]
  omega
theorem LX_token {b : Bytes} {k : Nat} {c : UInt8} (h : b[k]? = some c) (h1 : isBlank c = false) (h2 : c ≠ 35) :
    LX b k = (match token (b.drop k) with
      | none => .error ⟨2, k⟩
      | some x => (LX b (k + x.2)).map fun l => ⟨k, x.1⟩ :: l) := by
  have hk := (List.getElem?_eq_some_iff.mp h).1
  show lex (b.length + 1) k (b.drop k) = _
  rw [drop_at h]
  show (if isBlank c = true then _ else (if (c == 35) = true then _ else ((match token (c :: b.drop (k + 1)) with
      | none => .error ⟨2, k⟩
      | some x => (lex b.length (k + x.2) ((c :: b.drop (k + 1)).drop x.2)).map fun l => ⟨k, x.1⟩ :: l) : Except Fault Toks))) = _
  rw [h1, if_neg Bool.false_ne_true, if_neg (by simpa using h2)]
  cases e : token (c :: b.drop (k + 1)) with
  | none => rfl
  | some x =>
    dsimp only
    have q := token_pos (n := x.2) (t := x.1) e
    rw [← drop_at h, List.drop_drop, lex_LX]
    rw [List.length_drop]
    omega

/-! ### single tokens -/
theorem letter_iff (c : UInt8) : isLetter c = !(decide (c.toNat < 97) || decide (122 < c.toNat)) := by
  unfold isLetter
  rw [Bool.eq_iff_iff]
  simp
theorem digit_iff (c : UInt8) : isDigit c = !(decide (c.toNat < 48) || decide (57 < c.toNat)) := by
  unfold isDigit
  rw [Bool.eq_iff_iff]
  simp
def out (lo hi : Nat) (c : UInt8) : Bool := decide (c.toNat < lo) || decide (hi < c.toNat)
theorem tw_letter (l : Bytes) : l.takeWhile isLetter = l.take (tw (out 97 122) l) := by
  have e : isLetter = fun c => !out 97 122 c := funext letter_iff
  rw [e]
  unfold tw
  generalize h : (fun b : UInt8 => !out 97 122 b) = p
  exact (List.prefix_iff_eq_take.mp (List.takeWhile_prefix p))
theorem tw_digit (l : Bytes) : l.takeWhile isDigit = l.take (tw (out 48 57) l) := by
  have e : isDigit = fun c => !out 48 57 c := funext digit_iff
  rw [e]
  unfold tw
  generalize h : (fun b : UInt8 => !out 48 57 b) = p
  exact (List.prefix_iff_eq_take.mp (List.takeWhile_prefix p))
/-- the bytes from one place to another -/
def cut (b : Bytes) (i j : Nat) : Bytes := (b.drop i).take (j - i)
theorem cut_length {b : Bytes} {i j : Nat} (h : j ≤ b.length) : (cut b i j).length = j - i := by
  unfold cut
  rw [List.length_take, List.length_drop]
  omega
theorem cut_snoc {b : Bytes} {i j : Nat} {c : UInt8} (h : i ≤ j) (hc : b[j]? = some c) : cut b i (j + 1) = cut b i j ++ [c] := by
  unfold cut
  rw [show j + 1 - i = (j - i) + 1 from by omega, List.take_add_one, List.getElem?_drop, show i + (j - i) = j from by omega, hc]
  rfl
theorem cut_word (b : Bytes) (k : Nat) : (b.drop k).takeWhile isLetter = cut b k (firstAt (out 97 122) b k) := by
  rw [tw_letter]
  unfold cut firstAt
  rw [Nat.add_sub_cancel_left]
theorem cut_number (b : Bytes) (k : Nat) : (b.drop k).takeWhile isDigit = cut b k (firstAt (out 48 57) b k) := by
  rw [tw_digit]
  unfold cut firstAt
  rw [Nat.add_sub_cancel_left]
theorem cut_digits (b : Bytes) (k : Nat) : ∀ c ∈ cut b k (firstAt (out 48 57) b k), isDigit c = true := by
  rw [← cut_number]
  intro c hc
  have := List.all_takeWhile (p := isDigit) (l := b.drop k)
  exact List.all_eq_true.mp this c hc
theorem decimal_snoc (l : Bytes) (c : UInt8) : decimal (l ++ [c]) = 10 * decimal l + (c.toNat - 48) := by
  unfold decimal
  rw [List.foldl_append]
  rfl

theorem token_word {b : Bytes} {k : Nat} {c : UInt8} (h : b[k]? = some c) (hc : isLetter c = true) :
    token (b.drop k) = if 8 < firstAt (out 97 122) b k - k then none else some (.name (cut b k (firstAt (out 97 122) b k)), firstAt (out 97 122) b k - k) := by
  have hk := (List.getElem?_eq_some_iff.mp h).1
  have e := cut_word b k
  have hl : (cut b k (firstAt (out 97 122) b k)).length = firstAt (out 97 122) b k - k := cut_length (firstAt_le (Nat.le_of_lt hk)).2
  unfold token
  rw [drop_at h]
  dsimp only
  rw [if_pos hc, ← drop_at h, e, hl]
  rfl
theorem token_number {b : Bytes} {k : Nat} {c : UInt8} (h : b[k]? = some c) (hc : isLetter c = false) (hd : isDigit c = true) :
    token (b.drop k) = if 10 < firstAt (out 48 57) b k - k ∨ (1 < firstAt (out 48 57) b k - k ∧ c = 48) ∨ 1000000000 < decimal (cut b k (firstAt (out 48 57) b k)) then none
      else some (.num (decimal (cut b k (firstAt (out 48 57) b k))), firstAt (out 48 57) b k - k) := by
  have hk := (List.getElem?_eq_some_iff.mp h).1
  have e := cut_number b k
  have hl : (cut b k (firstAt (out 48 57) b k)).length = firstAt (out 48 57) b k - k := cut_length (firstAt_le (Nat.le_of_lt hk)).2
  have hh : (cut b k (firstAt (out 48 57) b k)).head? = some c := by
    rw [← e, drop_at h, List.takeWhile_cons, if_pos hd]
    rfl
  unfold token
  rw [drop_at h]
  dsimp only
  rw [if_neg (by rw [hc]; exact Bool.false_ne_true), if_pos hd, ← drop_at h, e]
  unfold numberOf
  rw [hl, hh]
  have hne : ¬ cut b k (firstAt (out 48 57) b k) = [] := fun z => by rw [z] at hh; cases hh
  by_cases q : 10 < firstAt (out 48 57) b k - k ∨ (1 < firstAt (out 48 57) b k - k ∧ c = 48) ∨ 1000000000 < decimal (cut b k (firstAt (out 48 57) b k))
  · rw [if_pos q, if_pos]
    · rfl
    · rcases q with q | q | q
      · exact .inr (.inl q)
      · exact .inr (.inr (.inl ⟨q.1, by rw [q.2]⟩))
      · exact .inr (.inr (.inr q))
  · rw [if_neg q, if_neg]
    · rfl
    · rintro (z | z | z | z)
      · exact hne z
      · exact q (.inl z)
      · exact q (.inr (.inl ⟨z.1, by simpa using z.2⟩))
      · exact q (.inr (.inr z))
theorem token_sign {b : Bytes} {k : Nat} (h : b[k]? = some 59) : token (b.drop k) = some (.sign 59, 1) := by
  unfold token
  rw [drop_at h]
  rfl
theorem token_none {b : Bytes} {k : Nat} {c : UInt8} (h : b[k]? = some c) (h1 : isLetter c = false) (h2 : isDigit c = false) (h3 : c ≠ 59) : token (b.drop k) = none := by
  unfold token
  rw [drop_at h]
  dsimp only
  rw [if_neg (by rw [h1]; exact Bool.false_ne_true), if_neg (by rw [h2]; exact Bool.false_ne_true), if_neg]
  unfold SIGNS
  simpa using h3
end Lx

/-! The parser by the sorts of tokens. -/
namespace Gr
open VasedBase Vaseda

/-- the sort of a word: its place among the own words, else 21 -/
def sortIn (b : Bytes) : List Bytes → Nat → Nat
  | [], _ => 21
  | w :: r, i => if b = w then i else sortIn b r (i + 1)
def sortOf (b : Bytes) : Nat := sortIn b RESERVED 0
def tokSort : Tok → Nat
  | .name b => sortOf b
  | .num _ => 22
  | .sign _ => 23
  | .last => 24
theorem reserved_length : RESERVED.length = 21 := by decide
theorem sortIn_at {b : Bytes} : ∀ {l : List Bytes} {i k : Nat}, i + l.length ≤ 21 → sortIn b l i = k → k < 21 → i ≤ k ∧ l[k - i]? = some b
  | [], i, k, _, h, hk => by
    have h' : 21 = k := h
    omega
  | w :: r, i, k, hl, h, hk => by
    rw [List.length_cons] at hl
    unfold sortIn at h
    split at h
    · rename_i e
      subst h
      rw [Nat.sub_self, e]
      exact ⟨Nat.le_refl _, rfl⟩
    · obtain ⟨h1, h2⟩ := sortIn_at (l := r) (i := i + 1) (by omega) h hk
      refine ⟨by omega, ?_⟩
      rw [show k - i = (k - (i + 1)) + 1 from by omega]
      exact h2
theorem sortOf_at {b : Bytes} {k : Nat} (h : sortOf b = k) (hk : k < 21) : RESERVED[k]? = some b := (sortIn_at (i := 0) (by rw [reserved_length]; decide) h hk).2
theorem sortIn_le (b : Bytes) : ∀ (l : List Bytes) (i : Nat), i + l.length ≤ 21 → sortIn b l i ≤ 21
  | [], _, _ => Nat.le_refl _
  | w :: r, i, h => by
    rw [List.length_cons] at h
    unfold sortIn
    split
    · omega
    · exact sortIn_le b r (i + 1) (by omega)
theorem sortOf_le (b : Bytes) : sortOf b ≤ 21 := sortIn_le b _ _ (by rw [reserved_length]; decide)
theorem sortIn_mem {b : Bytes} : ∀ {l : List Bytes} {i : Nat}, i + l.length ≤ 21 → b ∈ l → sortIn b l i < 21
  | [], _, _, h => by simp at h
  | w :: r, i, hl, h => by
    rw [List.length_cons] at hl
    unfold sortIn
    split
    · omega
    · rename_i e
      rcases List.mem_cons.mp h with h | h
      · exact absurd h e
      · exact sortIn_mem (by omega) h
theorem reserved_iff (b : Bytes) : RESERVED.contains b = decide (sortOf b < 21) := by
  rw [Bool.eq_iff_iff, decide_eq_true_iff, List.contains_iff_mem]
  constructor
  · exact sortIn_mem (by rw [reserved_length]; decide)
  · intro h
    exact List.mem_of_getElem? (sortOf_at rfl h)
/-- a token is an own word just if it is of its sort -/
theorem tokEq_sort {k : Nat} {w : Bytes} (hw : RESERVED[k]? = some w) (hk : k < 21) (hs : sortOf w = k) (t : Tok) : tokEq t (.name w) = decide (tokSort t = k) := by
  cases t with
  | name b =>
    show (b == w) = decide (sortOf b = k)
    rw [Bool.eq_iff_iff, decide_eq_true_iff, beq_iff_eq]
    constructor
    · rintro rfl
      exact hs
    · intro h
      have := sortOf_at h hk
      rw [hw] at this
      exact (Option.some.inj this).symm
  | num n =>
    have : ¬ tokSort (.num n) = k := fun z => by have z' : 22 = k := z; omega
    rw [decide_eq_false this]
    rfl
  | sign n =>
    have : ¬ tokSort (.sign n) = k := fun z => by have z' : 23 = k := z; omega
    rw [decide_eq_false this]
    rfl
  | last =>
    have : ¬ tokSort .last = k := fun z => by have z' : 24 = k := z; omega
    rw [decide_eq_false this]
    rfl
/-- the sort of the next token; of nothing 24 -/
def hs (l : Toks) : Nat := match l with
  | t :: _ => tokSort t.tok
  | [] => 25
theorem next_sort {s : String} {k : Nat} (hw : RESERVED[k]? = some (word s)) (hk : k < 21) (h : sortOf (word s) = k) (l : Toks) : nextWord s l = decide (hs l = k) := by
  unfold nextWord next
  cases l with
  | nil =>
    have : ¬ hs [] = k := fun z => by have z' : 25 = k := z; omega
    rw [decide_eq_false this]
  | cons t r => exact tokEq_sort hw hk h t.tok
theorem n_if (l : Toks) : nextWord "if" l = decide (hs l = 0) := next_sort (by decide) (by decide) (by decide) l
theorem n_all (l : Toks) : nextWord "all" l = decide (hs l = 1) := next_sort (by decide) (by decide) (by decide) l
theorem n_line (l : Toks) : nextWord "line" l = decide (hs l = 2) := next_sort (by decide) (by decide) (by decide) l
theorem n_from (l : Toks) : nextWord "from" l = decide (hs l = 3) := next_sort (by decide) (by decide) (by decide) l
theorem n_to (l : Toks) : nextWord "to" l = decide (hs l = 4) := next_sort (by decide) (by decide) (by decide) l
theorem n_last (l : Toks) : nextWord "last" l = decide (hs l = 5) := next_sort (by decide) (by decide) (by decide) l
theorem n_has (l : Toks) : nextWord "has" l = decide (hs l = 6) := next_sort (by decide) (by decide) (by decide) l
theorem n_is (l : Toks) : nextWord "is" l = decide (hs l = 7) := next_sort (by decide) (by decide) (by decide) l
theorem n_not (l : Toks) : nextWord "not" l = decide (hs l = 8) := next_sort (by decide) (by decide) (by decide) l
theorem n_delete (l : Toks) : nextWord "delete" l = decide (hs l = 9) := next_sort (by decide) (by decide) (by decide) l
theorem n_before (l : Toks) : nextWord "before" l = decide (hs l = 10) := next_sort (by decide) (by decide) (by decide) l
theorem n_after (l : Toks) : nextWord "after" l = decide (hs l = 11) := next_sort (by decide) (by decide) (by decide) l
theorem n_change (l : Toks) : nextWord "change" l = decide (hs l = 12) := next_sort (by decide) (by decide) (by decide) l
theorem n_swap (l : Toks) : nextWord "swap" l = decide (hs l = 13) := next_sort (by decide) (by decide) (by decide) l
theorem n_first (l : Toks) : nextWord "first" l = decide (hs l = 14) := next_sort (by decide) (by decide) (by decide) l
theorem n_keep (l : Toks) : nextWord "keep" l = decide (hs l = 15) := next_sort (by decide) (by decide) (by decide) l
theorem n_bring (l : Toks) : nextWord "bring" l = decide (hs l = 16) := next_sort (by decide) (by decide) (by decide) l
theorem n_trade (l : Toks) : nextWord "trade" l = decide (hs l = 17) := next_sort (by decide) (by decide) (by decide) l
theorem n_skip (l : Toks) : nextWord "skip" l = decide (hs l = 18) := next_sort (by decide) (by decide) (by decide) l
theorem n_stop (l : Toks) : nextWord "stop" l = decide (hs l = 19) := next_sort (by decide) (by decide) (by decide) l
theorem n_none (l : Toks) : nextWord "none" l = decide (hs l = 20) := next_sort (by decide) (by decide) (by decide) l

/-- what the lexer gives: the end stands last, and signs are the one sign -/
def Good (l : Toks) : Prop := ∃ r p, l = r ++ [⟨p, .last⟩] ∧ ∀ t ∈ r, t.tok ≠ .last ∧ (∀ c, t.tok = .sign c → c = 59) ∧ (∀ b, t.tok = .name b → b ≠ [] ∧ b.length ≤ 8)
theorem Good.cons {t : PTok} {r : Toks} (g : Good (t :: r)) (h : tokSort t.tok ≠ 24) : Good r := by
  obtain ⟨q, p, e, k⟩ := g
  cases q with
  | nil =>
    rw [List.nil_append] at e
    have e1 := (List.cons.inj e).1
    rw [e1] at h
    exact absurd rfl h
  | cons a q =>
    rw [List.cons_append] at e
    exact ⟨q, p, (List.cons.inj e).2, fun u hu => k u (List.mem_cons_of_mem _ hu)⟩
theorem Good.ne {l : Toks} (g : Good l) : ∃ t r, l = t :: r := by
  obtain ⟨q, p, e, k⟩ := g
  cases q with
  | nil => exact ⟨_, _, e⟩
  | cons a q => exact ⟨_, _, e⟩
theorem Good.here {t : PTok} {r : Toks} (g : Good (t :: r)) (h : t.tok ≠ .last) : (∀ c, t.tok = .sign c → c = 59) ∧ (∀ b, t.tok = .name b → b ≠ [] ∧ b.length ≤ 8) := by
  obtain ⟨q, p, e, k⟩ := g
  cases q with
  | nil =>
    rw [List.nil_append] at e
    have e1 := (List.cons.inj e).1
    rw [e1] at h
    exact absurd rfl h
  | cons a q =>
    rw [List.cons_append] at e
    rw [(List.cons.inj e).1]
    exact (k a List.mem_cons_self).2
theorem Good.end {p : Nat} : Good [⟨p, .last⟩] := ⟨[], p, rfl, fun _ h => by simp at h⟩
theorem Good.more {t : PTok} {l : Toks} (g : Good l) (h1 : t.tok ≠ .last) (h2 : ∀ c, t.tok = .sign c → c = 59) (h3 : ∀ b, t.tok = .name b → b ≠ [] ∧ b.length ≤ 8) : Good (t :: l) := by
  obtain ⟨q, p, e, k⟩ := g
  refine ⟨t :: q, p, by rw [e]; rfl, fun u hu => ?_⟩
  rcases List.mem_cons.mp hu with rfl | hu
  · exact ⟨h1, h2, h3⟩
  · exact k u hu

theorem next_last (l : Toks) : next .last l = decide (hs l = 24) := by
  cases l with
  | nil => rfl
  | cons t r =>
    show tokEq t.tok .last = decide (tokSort t.tok = 24)
    cases h : t.tok with
    | name b =>
      have := sortOf_le b
      rw [decide_eq_false (show ¬ tokSort (Tok.name b) = 24 from fun z => by have z' : sortOf b = 24 := z; omega)]
      rfl
    | num n => rfl
    | sign c => rfl
    | last => rfl
theorem next_sign {l : Toks} (g : Good l) : next (.sign 59) l = decide (hs l = 23) := by
  obtain ⟨t, r, rfl⟩ := g.ne
  show tokEq t.tok (.sign 59) = decide (tokSort t.tok = 23)
  cases h : t.tok with
  | name b =>
    have := sortOf_le b
    rw [decide_eq_false (show ¬ tokSort (Tok.name b) = 23 from fun z => by have z' : sortOf b = 23 := z; omega)]
    rfl
  | num n => rfl
  | sign c =>
    have := (g.here (by rw [h]; exact fun z => by cases z)).1 c h
    subst this
    rfl
  | last => rfl

/-! ### the readers, in the sorts -/
theorem takeSign_eq {l : Toks} (g : Good l) : takeSign 59 l = if hs l = 23 then .ok (l.drop 1) else .error ⟨3, here l⟩ := by
  unfold takeSign taken
  rw [next_sign g]
  by_cases h : hs l = 23
  · rw [decide_eq_true h, if_pos rfl, if_pos h]
  · rw [decide_eq_false h, if_neg Bool.false_ne_true, if_neg h]
    rfl
theorem takeTo_eq (l : Toks) : takeWord "to" l = if hs l = 4 then .ok (l.drop 1) else .error ⟨3, here l⟩ := by
  have e : next (.name (word "to")) l = decide (hs l = 4) := n_to l
  unfold takeWord taken
  rw [e]
  by_cases h : hs l = 4
  · rw [decide_eq_true h, if_pos rfl, if_pos h]
  · rw [decide_eq_false h, if_neg Bool.false_ne_true, if_neg h]
    rfl
/-- the letters of the next token -/
def hw (l : Toks) : Bytes := match l with
  | ⟨_, .name b⟩ :: _ => b
  | _ => []
def hn (l : Toks) : Nat := match l with
  | ⟨_, .num n⟩ :: _ => n
  | _ => 0
theorem takeLetters_eq (l : Toks) : takeLetters l = if hs l = 21 then .ok (hw l, l.drop 1) else .error ⟨3, here l⟩ := by
  unfold takeLetters takeName
  cases l with
  | nil => rfl
  | cons t r =>
    obtain ⟨p, t⟩ := t
    cases t with
    | name b =>
      dsimp only
      rw [reserved_iff]
      have := sortOf_le b
      by_cases h : sortOf b = 21
      · rw [decide_eq_false (show ¬ sortOf b < 21 from by omega), if_neg Bool.false_ne_true, if_pos (show hs (⟨p, .name b⟩ :: r) = 21 from h)]
        rfl
      · rw [decide_eq_true (show sortOf b < 21 from by omega), if_pos rfl, if_neg (show ¬ hs (⟨p, .name b⟩ :: r) = 21 from h)]
        rfl
    | num n => rfl
    | sign c => rfl
    | last => rfl
theorem takeNum_eq (lo hi : Nat) (l : Toks) : takeNum lo hi l = if hs l = 22 then (if hn l < lo ∨ hi < hn l then .error ⟨7, here l⟩ else .ok (hn l, l.drop 1)) else .error ⟨3, here l⟩ := by
  unfold takeNum
  cases l with
  | nil => rfl
  | cons t r =>
    obtain ⟨p, t⟩ := t
    cases t with
    | name b =>
      have := sortOf_le b
      rw [if_neg (show ¬ hs _ = 22 from fun z => by have z' : sortOf b = 22 := z; omega)]
      rfl
    | num n => rfl
    | sign c => rfl
    | last => rfl

/-- an address without its nots -/
def bare (l : Toks) : Except Fault (Addr × Toks) :=
  if hs l = 1 then .ok (.all, l.drop 1)
  else if hs l = 5 then .ok (.last, l.drop 1)
  else if hs l = 2 then (takeNum 1 99 (l.drop 1)).map fun x => (.line x.1, x.2)
  else if hs l = 3 then (takeNum 1 99 (l.drop 1)).bind fun x => (takeWord "to" x.2).bind fun l => (takeNum x.1 99 l).map fun y => (.span x.1 y.1, y.2)
  else if hs l = 6 then (takeLetters (l.drop 1)).map fun x => (.has x.1, x.2)
  else if hs l = 7 then (takeLetters (l.drop 1)).map fun x => (.is_ x.1, x.2)
  else .error ⟨3, here l⟩
def nots : Nat → Addr → Addr
  | 0, a => a
  | n + 1, a => .not (nots n a)
theorem nots_out (n : Nat) (a : Addr) : nots n (.not a) = .not (nots n a) := by
  induction n with
  | zero => rfl
  | succ n ih => unfold nots; rw [ih]
theorem takeAddr_bare (f n : Nat) (l : Toks) (h : hs l ≠ 8) : takeAddr (f + 1) n l = bare l := by
  unfold takeAddr bare
  rw [n_all, n_line, n_from, n_last, n_has, n_is, n_not]
  by_cases h1 : hs l = 1
  · rw [decide_eq_true h1, if_pos rfl, if_pos h1]
  by_cases h2 : hs l = 2
  · simp [h2]
    rfl
  by_cases h3 : hs l = 3
  · simp [h3]
    rfl
  by_cases h5 : hs l = 5
  · simp [h5]
  by_cases h6 : hs l = 6
  · simp [h6]
  by_cases h7 : hs l = 7
  · simp [h7]
  simp [h1, h2, h3, h5, h6, h7, h]
  rfl
theorem takeAddr_not (f n : Nat) (l : Toks) (h : hs l = 8) : takeAddr (f + 1) n l = if 3 ≤ n then .error ⟨4, here l⟩ else (takeAddr f (n + 1) (l.drop 1)).map fun x => (.not x.1, x.2) := by
  rw [takeAddr]
  rw [n_all, n_line, n_from, n_last, n_has, n_is, n_not]
  simp [h]
  rfl
/-- how many nots stand at the beginning, up to 4 -/
def cnt : Nat → Toks → Nat
  | 0, _ => 0
  | k + 1, l => if hs l = 8 then cnt k (l.drop 1) + 1 else 0
theorem hs_len {l : Toks} (h : hs l = 8) : 1 ≤ l.length := by
  cases l with
  | nil => cases h
  | cons t r => exact Nat.succ_le_succ (Nat.zero_le _)
theorem takeAddr_eq : ∀ (k n f : Nat) (l : Toks), n + k = 3 → l.length < f → takeAddr f n l = if cnt (k + 1) l = k + 1 then .error ⟨4, here (l.drop k)⟩ else (bare (l.drop (cnt (k + 1) l))).map fun x => (nots (cnt (k + 1) l) x.1, x.2)
  | _, _, 0, _, _, h => absurd h (Nat.not_lt_zero _)
  | 0, n, f + 1, l, hn, hf => by
    by_cases h : hs l = 8
    · rw [takeAddr_not f n l h, if_pos (by omega)]
      simp [cnt, h]
    · rw [takeAddr_bare f n l h]
      simp only [cnt, h, if_neg, not_false_eq_true]
      rw [if_neg (by decide)]
      show bare l = (bare l).map fun x => (x.1, x.2)
      cases bare l <;> rfl
  | k + 1, n, f + 1, l, hn, hf => by
    by_cases h : hs l = 8
    · rw [takeAddr_not f n l h, if_neg (by omega)]
      have := hs_len h
      rw [takeAddr_eq k (n + 1) f (l.drop 1) (by omega) (by rw [List.length_drop]; omega)]
      rw [show cnt (k + 1 + 1) l = cnt (k + 1) (l.drop 1) + 1 from by rw [cnt, if_pos h]]
      by_cases c : cnt (k + 1) (l.drop 1) = k + 1
      · rw [if_pos c, if_pos (by rw [c]), List.drop_drop, Nat.add_comm 1 k]
        rfl
      · rw [if_neg c, if_neg (fun z => c (Nat.succ.inj z)), List.drop_drop, Nat.add_comm 1 _]
        cases bare (l.drop (cnt (k + 1) (l.drop 1) + 1)) <;> rfl
    · rw [takeAddr_bare f n l h]
      rw [show cnt (k + 1 + 1) l = 0 from by rw [cnt, if_neg h]]
      rw [if_neg (fun z => by cases z)]
      show bare l = (bare l).map fun x => (x.1, x.2)
      cases bare l <;> rfl
theorem addr_eq (l : Toks) : takeAddr (l.length + 1) 0 l = if cnt 4 l = 4 then .error ⟨4, here (l.drop 3)⟩ else (bare (l.drop (cnt 4 l))).map fun x => (nots (cnt 4 l) x.1, x.2) := takeAddr_eq 3 0 _ l rfl (Nat.lt_succ_self _)

theorem instead_eq (l : Toks) : takeInstead l = if hs l = 20 then .ok ([], l.drop 1) else takeLetters l := by
  unfold takeInstead
  rw [n_none]
  by_cases h : hs l = 20
  · rw [decide_eq_true h, if_pos rfl, if_pos h]
  · rw [decide_eq_false h, if_neg Bool.false_ne_true, if_neg h]
theorem deed_eq (l : Toks) : takeDeed l =
    if hs l = 9 then .ok (.delete, l.drop 1)
    else if hs l = 15 then .ok (.keep, l.drop 1)
    else if hs l = 16 then .ok (.bring, l.drop 1)
    else if hs l = 17 then .ok (.trade, l.drop 1)
    else if hs l = 19 then .ok (.halt_, l.drop 1)
    else if hs l = 10 then (takeLetters (l.drop 1)).map fun x => (.before x.1, x.2)
    else if hs l = 11 then (takeLetters (l.drop 1)).map fun x => (.after x.1, x.2)
    else if hs l = 12 then (takeLetters (l.drop 1)).map fun x => (.change x.1, x.2)
    else if hs l = 13 then takeTwo .swap (l.drop 1)
    else if hs l = 14 then takeTwo .first (l.drop 1)
    else if hs l = 18 then (takeNum 1 9 (l.drop 1)).map fun x => (.skip x.1, x.2)
    else .error ⟨3, here l⟩ := by
  unfold takeDeed
  dsimp only
  rw [n_delete, n_before, n_after, n_change, n_swap, n_first, n_keep, n_bring, n_trade, n_skip, n_stop]
  generalize hs l = z
  by_cases a1 : z = 9
  · simp [a1]
  by_cases a2 : z = 10
  · simp [a2]
  by_cases a3 : z = 11
  · simp [a3]
  by_cases a4 : z = 12
  · simp [a4]
  by_cases a5 : z = 13
  · simp [a5]
  by_cases a6 : z = 14
  · simp [a6]
  by_cases a7 : z = 15
  · simp [a7]
  by_cases a8 : z = 16
  · simp [a8]
  by_cases a9 : z = 17
  · simp [a9]
  by_cases b1 : z = 18
  · simp [b1]
    rfl
  by_cases b2 : z = 19
  · simp [b2]
  simp [a1, a2, a3, a4, a5, a6, a7, a8, a9, b1, b2]
  rfl
theorem cmd_eq (l : Toks) : takeCmd l = (if hs l = 0 then takeAddr ((l.drop 1).length + 1) 0 (l.drop 1) else .ok (Addr.all, l)).bind fun a => (takeDeed a.2).bind fun d => (takeSign 59 d.2).map fun m => (⟨a.1, d.1⟩, m) := by
  unfold takeCmd
  rw [n_if]
  by_cases h : hs l = 0
  · rw [decide_eq_true h, if_pos rfl, if_pos h]
    have h1 : 1 ≤ l.length := by
      cases l with
      | nil => cases h
      | cons t r => exact Nat.succ_le_succ (Nat.zero_le _)
    have e : takeAddr (l.length + 1) 0 (l.drop 1) = takeAddr ((l.drop 1).length + 1) 0 (l.drop 1) := by
      rw [takeAddr_eq 3 0 (l.length + 1) (l.drop 1) rfl (by rw [List.length_drop]; omega), addr_eq]
    rw [e]
  · rw [decide_eq_false h, if_neg Bool.false_ne_true, if_neg h]
theorem cmds_eq (n : Nat) (cs : Script) (l : Toks) : takeCmds (n + 1) cs l = if hs l = 24 then .ok cs else if 16 ≤ cs.length then .error ⟨4, here l⟩ else (takeCmd l).bind fun x => takeCmds n (cs ++ [x.1]) x.2 := by
  rw [takeCmds, next_last]
  by_cases h : hs l = 24
  · rw [decide_eq_true h, if_pos rfl, if_pos h]
  · rw [decide_eq_false h, if_neg Bool.false_ne_true, if_neg h]
    rfl

/-! ### what is left is good -/
theorem Good.drop1 {l : Toks} (g : Good l) (h : hs l ≠ 24) : Good (l.drop 1) := by
  obtain ⟨t, r, rfl⟩ := g.ne
  exact g.cons h
theorem good_letters {l m : Toks} {x : Bytes} (g : Good l) (h : takeLetters l = .ok (x, m)) : Good m ∧ m = l.drop 1 ∧ x = hw l ∧ hs l = 21 := by
  rw [takeLetters_eq] at h
  split at h
  · rename_i e
    cases h
    exact ⟨g.drop1 (by rw [e]; decide), rfl, rfl, e⟩
  · cases h
theorem good_num {l m : Toks} {lo hi n : Nat} (g : Good l) (h : takeNum lo hi l = .ok (n, m)) : Good m := by
  rw [takeNum_eq] at h
  split at h
  · rename_i e
    split at h
    · cases h
    · cases h
      exact g.drop1 (by rw [e]; decide)
  · cases h
theorem good_to {l m : Toks} (g : Good l) (h : takeWord "to" l = .ok m) : Good m := by
  rw [takeTo_eq] at h
  split at h
  · rename_i e
    cases h
    exact g.drop1 (by rw [e]; decide)
  · cases h
theorem good_sign {l m : Toks} (g : Good l) (h : takeSign 59 l = .ok m) : Good m := by
  rw [takeSign_eq g] at h
  split at h
  · rename_i e
    cases h
    exact g.drop1 (by rw [e]; decide)
  · cases h
theorem good_instead {l m : Toks} {x : Bytes} (g : Good l) (h : takeInstead l = .ok (x, m)) : Good m := by
  rw [instead_eq] at h
  split at h
  · rename_i e
    cases h
    exact g.drop1 (by rw [e]; decide)
  · exact (good_letters g h).1
theorem map_ok {α β : Type} {e : Except Fault α} {f : α → β} {b : β} (h : e.map f = .ok b) : ∃ a, e = .ok a ∧ f a = b := by
  cases e with
  | error x => cases h
  | ok a => exact ⟨a, rfl, Except.ok.inj h⟩
theorem bind_ok {α β : Type} {e : Except Fault α} {f : α → Except Fault β} {b : β} (h : e.bind f = .ok b) : ∃ a, e = .ok a ∧ f a = .ok b := by
  cases e with
  | error x => cases h
  | ok a => exact ⟨a, rfl, h⟩
theorem good_bare {l m : Toks} {a : Addr} (g : Good l) (h : bare l = .ok (a, m)) : Good m := by
  unfold bare at h
  split at h
  · rename_i e
    cases h
    exact g.drop1 (by rw [e]; decide)
  split at h
  · rename_i e
    cases h
    exact g.drop1 (by rw [e]; decide)
  split at h
  · rename_i e
    obtain ⟨x, hx, e2⟩ := map_ok h
    cases e2
    exact good_num (g.drop1 (by rw [e]; decide)) hx
  split at h
  · rename_i e
    obtain ⟨x, hx, h⟩ := bind_ok h
    obtain ⟨y, hy, h⟩ := bind_ok h
    obtain ⟨z, hz, e2⟩ := map_ok h
    cases e2
    exact good_num (good_to (good_num (g.drop1 (by rw [e]; decide)) hx) hy) hz
  split at h
  · rename_i e
    obtain ⟨x, hx, e2⟩ := map_ok h
    cases e2
    exact (good_letters (g.drop1 (by rw [e]; decide)) hx).1
  split at h
  · rename_i e
    obtain ⟨x, hx, e2⟩ := map_ok h
    cases e2
    exact (good_letters (g.drop1 (by rw [e]; decide)) hx).1
  · cases h
theorem good_cnt : ∀ (k : Nat) {l : Toks}, Good l → Good (l.drop (cnt k l))
  | 0, _, g => g
  | k + 1, l, g => by
    unfold cnt
    split
    · rename_i e
      rw [Nat.add_comm, ← List.drop_drop]
      exact good_cnt k (g.drop1 (by rw [e]; decide))
    · exact g
theorem good_addr {l m : Toks} {a : Addr} (g : Good l) (h : takeAddr (l.length + 1) 0 l = .ok (a, m)) : Good m := by
  rw [addr_eq] at h
  split at h
  · cases h
  · obtain ⟨x, hx, e2⟩ := map_ok h
    cases e2
    exact good_bare (good_cnt 4 g) hx
theorem good_two {l m : Toks} {f : Bytes → Bytes → Deed} {d : Deed} (g : Good l) (h : takeTwo f l = .ok (d, m)) : Good m := by
  unfold takeTwo at h
  obtain ⟨x, hx, h⟩ := bind_ok h
  obtain ⟨y, hy, e2⟩ := map_ok h
  cases e2
  exact good_instead (good_letters g hx).1 hy
theorem good_deed {l m : Toks} {d : Deed} (g : Good l) (h : takeDeed l = .ok (d, m)) : Good m := by
  rw [deed_eq] at h
  iterate 5
    split at h
    · rename_i e
      cases h
      exact g.drop1 (by rw [e]; decide)
  iterate 3
    split at h
    · rename_i e
      obtain ⟨x, hx, e2⟩ := map_ok h
      cases e2
      exact (good_letters (g.drop1 (by rw [e]; decide)) hx).1
  iterate 2
    split at h
    · rename_i e
      exact good_two (g.drop1 (by rw [e]; decide)) h
  split at h
  · rename_i e
    obtain ⟨x, hx, e2⟩ := map_ok h
    cases e2
    exact good_num (g.drop1 (by rw [e]; decide)) hx
  · cases h
theorem good_cmd {l m : Toks} {c : Cmd} (g : Good l) (h : takeCmd l = .ok (c, m)) : Good m := by
  rw [cmd_eq] at h
  obtain ⟨a, ha, h⟩ := bind_ok h
  obtain ⟨d, hd, h⟩ := bind_ok h
  obtain ⟨s, hs', e⟩ := map_ok h
  cases e
  have ga : Good a.2 := by
    split at ha
    · rename_i e
      exact good_addr (a := a.1) (g.drop1 (by rw [e]; decide)) ha
    · cases ha
      exact g
  exact good_sign (good_deed (d := d.1) ga hd) hs'
end Gr

/-! Plain scripts, their words, runs: what the program reckons. -/
namespace Rn
open VasedBase Vaseda Vasedb Vasedd

/-! ### words, each once -/
theorem erase_snoc {α : Type} [BEq α] [LawfulBEq α] (l : List α) (x : α) : (l ++ [x]).eraseDups = if l.contains x = true then l.eraseDups else l.eraseDups ++ [x] := by
  rw [List.eraseDups_append]
  by_cases h : l.contains x = true
  · have e : [x].removeAll l = [] := by
      have h' : x ∈ l := by simpa using h
      simp [List.removeAll, h']
    rw [e, if_pos h]
    simp
  · have e : [x].removeAll l = [x] := by
      have h' : x ∉ l := by simpa using h
      simp [List.removeAll, h']
    rw [e, if_neg h]
    rfl
theorem contains_erase {α : Type} [BEq α] [LawfulBEq α] (l : List α) (x : α) : l.eraseDups.contains x = l.contains x := by
  rw [Bool.eq_iff_iff, List.contains_iff_mem, List.contains_iff_mem, List.mem_eraseDups]
/-- one word more -/
def add (l : List Bytes) (x : Bytes) : List Bytes := if l.contains x = true then l else l ++ [x]
theorem erase_add (l : List Bytes) (x : Bytes) : (l ++ [x]).eraseDups = add l.eraseDups x := by
  rw [erase_snoc]
  unfold add
  rw [contains_erase]
theorem erase_add2 (l m : List Bytes) (x : Bytes) : (l ++ (m ++ [x])).eraseDups = add (l ++ m).eraseDups x := by
  rw [← List.append_assoc, erase_add]
/-- what the program does with a command's words -/
def hasAdd (l : List Bytes) (c : Cmd) : List Bytes := (wordsOf c.a).foldl add l
def ownAdd (l : List Bytes) (c : Cmd) : List Bytes := (justOf c.a ++ putOf c.d).foldl add l
theorem fold_add : ∀ (m l : List Bytes), m.foldl add l.eraseDups = (l ++ m).eraseDups
  | [], l => by simp
  | x :: r, l => by
    rw [List.foldl_cons, ← erase_add, fold_add r, List.append_assoc]
    rfl
theorem has_fold : ∀ (s : Script) (l : List Bytes), s.foldl hasAdd l.eraseDups = (l ++ s.flatMap fun c => wordsOf c.a).eraseDups
  | [], l => by simp
  | c :: r, l => by
    rw [List.foldl_cons]
    have e : hasAdd l.eraseDups c = (l ++ wordsOf c.a).eraseDups := fold_add _ _
    rw [e, List.flatMap_cons, ← List.append_assoc]
    exact has_fold r _
theorem own_fold : ∀ (s : Script) (l : List Bytes), s.foldl ownAdd l.eraseDups = (l ++ s.flatMap fun c => justOf c.a ++ putOf c.d).eraseDups
  | [], l => by simp
  | c :: r, l => by
    rw [List.foldl_cons]
    have e : ownAdd l.eraseDups c = (l ++ (justOf c.a ++ putOf c.d)).eraseDups := fold_add _ _
    rw [e, List.flatMap_cons, own_fold r, List.append_assoc]
theorem has_eq (s : Script) : hasWords s = s.foldl hasAdd [] := by
  have := has_fold s []
  rw [List.nil_append] at this
  exact this.symm
theorem own_eq (s : Script) : ownWords s = s.foldl ownAdd [] := by
  have := own_fold s []
  rw [List.nil_append] at this
  exact this.symm
theorem dd_eq (l : List Bytes) : l.eraseDups = l.foldl add [] := by
  have := fold_add l []
  rw [List.nil_append] at this
  exact this.symm
theorem mem_add (l : List Bytes) (x y : Bytes) : y ∈ add l x ↔ y ∈ l ∨ y = x := by
  unfold add
  split
  · rename_i h
    have h' : x ∈ l := by simpa using h
    constructor
    · exact .inl
    · rintro (h | rfl)
      · exact h
      · exact h'
  · simp
theorem mem_foldAdd : ∀ (m l : List Bytes) (y : Bytes), y ∈ m.foldl add l ↔ y ∈ l ∨ y ∈ m
  | [], l, y => by simp
  | x :: r, l, y => by
    rw [List.foldl_cons, mem_foldAdd r, mem_add, List.mem_cons, or_assoc]
theorem foldl_add2 : ∀ (m d acc : List Bytes), (m.foldl add d).foldl add acc = m.foldl add (d.foldl add acc)
  | [], _, _ => rfl
  | x :: r, d, acc => by
    rw [List.foldl_cons, List.foldl_cons, foldl_add2 r (add d x) acc]
    congr 1
    by_cases h : x ∈ d
    · have e1 : add d x = d := by unfold add; rw [if_pos (by simpa using h)]
      have e2 : add (d.foldl add acc) x = d.foldl add acc := by
        unfold add
        exact if_pos (List.contains_iff_mem.mpr ((mem_foldAdd d acc x).mpr (.inr h)))
      rw [e1, e2]
    · have e1 : add d x = d ++ [x] := by unfold add; rw [if_neg (by simpa using h)]
      rw [e1, List.foldl_append]
      rfl
theorem add_nodup {l : List Bytes} (h : l.Nodup) (x : Bytes) : (add l x).Nodup := by
  unfold add
  split
  · exact h
  · rename_i c
    rw [List.nodup_append]
    refine ⟨h, by simp, fun a ha b hb e => ?_⟩
    have hb' : b = x := by simpa using hb
    subst hb'
    subst e
    exact c (by simpa using ha)
theorem foldAdd_nodup : ∀ (m l : List Bytes), l.Nodup → (m.foldl add l).Nodup
  | [], _, h => h
  | x :: r, l, h => foldAdd_nodup r _ (add_nodup h x)
theorem dd_nodup (l : List Bytes) : l.eraseDups.Nodup := by
  rw [dd_eq]
  exact foldAdd_nodup l [] List.nodup_nil
theorem erase_erase (l m : List Bytes) : (l.eraseDups ++ m.eraseDups).eraseDups = (l ++ m).eraseDups := by
  rw [dd_eq l, dd_eq m, dd_eq, dd_eq, List.foldl_append, List.foldl_append, foldl_add2 l [], foldl_add2 m []]
  rfl
/-! ### plain -/
theorem dd_len (l : List Bytes) : l.eraseDups.length ≤ l.length := by
  refine Bfs.nodup_len _ _ (dd_nodup l) fun x hx => ?_
  rwa [List.mem_eraseDups] at hx
/-- two lists without doubles of the same words have the same sums -/
theorem perm_of {l m : List Bytes} (hl : l.Nodup) (hm : m.Nodup) (h : ∀ x, x ∈ l ↔ x ∈ m) : l.Perm m := by
  rw [List.perm_iff_count]
  intro a
  by_cases q : a ∈ l
  · rw [hl.count, hm.count, if_pos q, if_pos ((h a).mp q)]
  · rw [hl.count, hm.count, if_neg q, if_neg fun z => q ((h a).mpr z)]
theorem sub_sum : ∀ {l m : List Nat}, l.Sublist m → l.sum ≤ m.sum
  | _, _, .slnil => Nat.le_refl _
  | _, _, .cons a h => by
    rw [List.sum_cons]
    exact Nat.le_trans (sub_sum h) (Nat.le_add_left _ _)
  | _, _, .cons_cons a h => by
    rw [List.sum_cons, List.sum_cons]
    exact Nat.add_le_add_left (sub_sum h) _
theorem has_perm (s u : Script) : (hasWords (s ++ u)).Perm (hasWords (u ++ s)) := by
  refine perm_of (dd_nodup _) (dd_nodup _) fun x => ?_
  unfold hasWords
  rw [List.mem_eraseDups, List.mem_eraseDups, List.flatMap_append, List.flatMap_append, List.mem_append, List.mem_append]
  exact Or.comm
theorem plain_comm (s u : Script) : plain (s ++ u) = plain (u ++ s) := by
  unfold plain
  have p := has_perm s u
  rw [List.all_append, List.all_append, Bool.and_comm (s.all _), p.length_eq, (p.map fun w => w.length).sum_nat]
theorem plain_left {s u : Script} (h : plain (s ++ u) = true) : plain s = true := by
  unfold plain at h ⊢
  rw [Bool.and_eq_true, Bool.and_eq_true, decide_eq_true_iff, decide_eq_true_iff] at h ⊢
  obtain ⟨h1, h2, h3⟩ := h
  rw [List.all_append, Bool.and_eq_true] at h1
  have sub : (hasWords s).Sublist (hasWords (s ++ u)) := by
    unfold hasWords
    rw [List.flatMap_append, ← fold_add]
    generalize (u.flatMap fun c => wordsOf c.a) = m
    generalize (s.flatMap fun c => wordsOf c.a).eraseDups = d
    induction m generalizing d with
    | nil => exact List.Sublist.refl _
    | cons x r ih =>
      refine List.Sublist.trans ?_ (ih (add d x))
      unfold add
      split
      · exact List.Sublist.refl _
      · exact List.sublist_append_left _ _
  refine ⟨h1.1, Nat.le_trans sub.length_le h2, Nat.le_trans ?_ h3⟩
  exact sub_sum (sub.map fun w => w.length)
theorem has_both (s u : Script) : (hasWords s ++ hasWords u).eraseDups = hasWords (s ++ u) := by
  unfold hasWords
  rw [erase_erase, List.flatMap_append]
theorem own_both (s u : Script) : (ownWords s ++ ownWords u).eraseDups = ownWords (s ++ u) := by
  unfold ownWords
  rw [erase_erase, List.flatMap_append]
/-- the words of plain scripts together -/
structure Few (s : Script) : Prop where
  four : (hasWords s).length ≤ 4
  letters : ((hasWords s).map fun w => w.length).sum ≤ 16
theorem few_of {s : Script} (h : plain s = true) : Few s := by
  unfold plain at h
  rw [Bool.and_eq_true, Bool.and_eq_true, decide_eq_true_iff, decide_eq_true_iff] at h
  exact ⟨h.2.1, h.2.2⟩
theorem plain_deeds {s : Script} (h : plain s = true) : ∀ c ∈ s, plainDeed c.d = true := by
  unfold plain at h
  rw [Bool.and_eq_true] at h
  exact fun c hc => List.all_eq_true.mp h.1 c hc

/-! ### what comes of a line -/
/-- the program's turn: lines ahead, behind, the line by now, how many commands are left out -/
def come (k : Nat) (last : Bool) : Script → List Line → List Line → Line → Nat → List Line
  | [], a, b, x, _ => a ++ [x] ++ b
  | c :: r, a, b, x, l =>
    if 0 < l then come k last r a b x (l - 1)
    else if holds k last x c.a = true then
      (match c.d with
      | .delete => a ++ b
      | .halt_ => a ++ [x] ++ b
      | .before w => come k last r (a ++ [w]) b x l
      | .after w => come k last r a (b ++ [w]) x l
      | .change w => come k last r a b w l
      | .skip m => come k last r a b x m
      | _ => come k last r a b x l)
    else come k last r a b x l
def lines (l : List Out) : List Line := l.map fun o => o.x
def outW (k : Nat) (w : Work) : List Line := lines (outOf k w)
theorem outW_eq (k : Nat) (w : Work) : outW k w = lines w.pre ++ (if w.gone = true then [] else [w.x]) ++ lines w.post := by
  unfold outW outOf lines
  rw [List.map_append, List.map_append, List.append_assoc]
  cases w.gone <;> rfl
theorem work_halt (k : Nat) (last : Bool) : ∀ (s : List (Cmd × Nat)) (w : Work), (w.halt || w.bad) = true → s.foldl (work k last) w = w
  | [], _, _ => rfl
  | c :: r, w, h => by
    rw [List.foldl_cons]
    have e : work k last w c = w := by unfold work; rw [if_pos h]
    rw [e]
    exact work_halt k last r w h
theorem come_eq (k : Nat) (last : Bool) : ∀ (s : Script) (i : Nat) (w : Work), (∀ c ∈ s, plainDeed c.d = true) → w.halt = false → w.bad = false → w.gone = false →
    outW k ((s.zipIdx i).foldl (work k last) w) = come k last s (lines w.pre) (lines w.post) w.x w.left ∧ ((s.zipIdx i).foldl (work k last) w).held = w.held ∧ ((s.zipIdx i).foldl (work k last) w).bad = false
  | [], i, w, _, _, hb, hg => by
    refine ⟨?_, rfl, hb⟩
    show outW k w = lines w.pre ++ [w.x] ++ lines w.post
    rw [outW_eq, hg]
    rfl
  | c :: r, i, w, hp, hh, hb, hg => by
    have hp' : ∀ c ∈ r, plainDeed c.d = true := fun d hd => hp d (List.mem_cons_of_mem _ hd)
    have hc := hp c List.mem_cons_self
    rw [List.zipIdx_cons, List.foldl_cons]
    have e : work k last w (c, i) = if 0 < w.left then { w with left := w.left - 1 } else if holds k last w.x c.a = true then deed k i { w with did := w.did ++ [i] } c.d else w := by
      unfold work
      rw [hh, hb]
      rfl
    rw [e]
    unfold come
    by_cases h1 : 0 < w.left
    · rw [if_pos h1, if_pos h1]
      exact come_eq k last r (i + 1) _ hp' hh hb hg
    rw [if_neg h1, if_neg h1]
    by_cases h2 : holds k last w.x c.a = true
    · rw [if_pos h2, if_pos h2]
      obtain ⟨a, d⟩ := c
      cases d with
      | delete =>
        rw [work_halt k last _ _ rfl]
        refine ⟨?_, rfl, hb⟩
        rw [outW_eq]
        show lines w.pre ++ [] ++ lines w.post = _
        rw [List.append_nil]
      | halt_ =>
        rw [work_halt k last _ _ rfl]
        refine ⟨?_, rfl, hb⟩
        rw [outW_eq]
        show lines w.pre ++ (if w.gone = true then [] else [w.x]) ++ lines w.post = _
        rw [hg]
        rfl
      | before y =>
        have q := come_eq k last r (i + 1) (deed k i { w with did := w.did ++ [i] } (.before y)) hp' hh hb hg
        rw [show lines (deed k i { w with did := w.did ++ [i] } (.before y)).pre = lines w.pre ++ [y] from List.map_append ..] at q
        exact q
      | after y =>
        have q := come_eq k last r (i + 1) (deed k i { w with did := w.did ++ [i] } (.after y)) hp' hh hb hg
        rw [show lines (deed k i { w with did := w.did ++ [i] } (.after y)).post = lines w.post ++ [y] from List.map_append ..] at q
        exact q
      | change y => exact come_eq k last r (i + 1) (deed k i { w with did := w.did ++ [i] } (.change y)) hp' hh hb hg
      | skip m => exact come_eq k last r (i + 1) (deed k i { w with did := w.did ++ [i] } (.skip m)) hp' hh hb hg
      | swap a b => cases hc
      | first a b => cases hc
      | keep => cases hc
      | bring => cases hc
      | trade => cases hc
    · rw [if_neg h2, if_neg h2]
      exact come_eq k last r (i + 1) w hp' hh hb hg
theorem line_eq {s : Script} (h : plain s = true) (k : Nat) (last : Bool) (x : Line) : outW k (lineRun s k last x []) = come k last s [] [] x 0 ∧ (lineRun s k last x []).held = [] ∧ (lineRun s k last x []).bad = false :=
  come_eq k last s 0 _ (plain_deeds h) rfl rfl rfl
theorem outAt_eq {s : Script} (h : plain s = true) (p : Spot) (x : Line) : outAt s p x = come p.k p.last s [] [] x 0 := (line_eq h p.k p.last x).1
/-- few lines come of a line -/
theorem come_len (k : Nat) (last : Bool) : ∀ (s : Script) (a b : List Line) (x : Line) (l : Nat), (come k last s a b x l).length ≤ a.length + b.length + 1 + s.length
  | [], a, b, x, l => by
    show (a ++ [x] ++ b).length ≤ _
    simp only [List.length_append, List.length_cons, List.length_nil]
    omega
  | c :: r, a, b, x, l => by
    have ih := fun a b x l => come_len k last r a b x l
    rw [List.length_cons]
    unfold come
    split
    · have := ih a b x (l - 1); omega
    · split
      · split
        · simp only [List.length_append]; omega
        · simp only [List.length_append, List.length_cons, List.length_nil]; omega
        · rename_i w _; have := ih (a ++ [w]) b x l; simp only [List.length_append, List.length_cons, List.length_nil] at this; omega
        · rename_i w _; have := ih a (b ++ [w]) x l; simp only [List.length_append, List.length_cons, List.length_nil] at this; omega
        · rename_i w _; have := ih a b w l; omega
        · rename_i m _; have := ih a b x m; omega
        · have := ih a b x l; omega
      · have := ih a b x l; omega

/-! ### runs -/
/-- what comes of all lines, from a number on -/
def outs (s : Script) : Nat → List Line → List Line
  | _, [] => []
  | k, x :: r => come k r.isEmpty s [] [] x 0 ++ outs s (k + 1) r
def runP (s : Script) (t : List Line) : Option (List Line) := if 60 < (outs s 1 t).length then none else some (outs s 1 t)
theorem works_eq {s : Script} (h : plain s = true) : ∀ (t : List Line) (k : Nat), (∀ w ∈ worksBy s k [] t, w.bad = false) ∧
    ((worksBy s k [] t).zipIdx (k - 1)).flatMap (fun w => outW (w.2 + 1) w.1) = (if k = 0 then ((worksBy s k [] t).zipIdx (k - 1)).flatMap (fun w => outW (w.2 + 1) w.1) else outs s k t)
  | [], k => ⟨fun w hw => by simp [worksBy] at hw, by split <;> simp [worksBy, outs]⟩
  | x :: r, k => by
    obtain ⟨e1, e2, e3⟩ := line_eq h k r.isEmpty x
    have ih := works_eq h r (k + 1)
    have eb : worksBy s k [] (x :: r) = lineRun s k r.isEmpty x [] :: worksBy s (k + 1) [] r := by
      show lineRun s k r.isEmpty x [] :: worksBy s (k + 1) (lineRun s k r.isEmpty x []).held r = _
      rw [e2]
    rw [eb]
    refine ⟨fun w hw => ?_, ?_⟩
    · rcases List.mem_cons.mp hw with rfl | hw
      · exact e3
      · exact ih.1 w hw
    · by_cases hk : k = 0
      · rw [if_pos hk]
      · rw [if_neg hk, List.zipIdx_cons, List.flatMap_cons]
        have i2 := ih.2
        rw [if_neg (by omega), show k + 1 - 1 = k - 1 + 1 from by omega] at i2
        rw [i2]
        show outW (k - 1 + 1) (lineRun s k r.isEmpty x []) ++ outs s (k + 1) r = _
        rw [show k - 1 + 1 = k from by omega, e1]
        rfl
theorem result_eq {s : Script} (h : plain s = true) (t : List Line) : result s t = runP s t := by
  have w := works_eq h t 1
  have e := w.2
  rw [if_neg (by decide)] at e
  have hb : (works s t).any (fun w => w.bad) = false := by
    rw [List.any_eq_false]
    intro x hx
    rw [w.1 x hx]
    exact Bool.false_ne_true
  have el : lines ((works s t).zipIdx.flatMap fun w => outOf (w.2 + 1) w.1) = outs s 1 t := by
    rw [← e]
    unfold lines
    rw [List.map_flatMap]
    rfl
  have en : ((works s t).zipIdx.flatMap fun w => outOf (w.2 + 1) w.1).length = (outs s 1 t).length := by
    rw [← el]
    exact (List.length_map ..).symm
  unfold result Vaseda.run runP
  dsimp only
  rw [hb, en]
  by_cases c : 60 < (outs s 1 t).length
  · rw [if_pos c, if_pos (.inr c)]
    rfl
  · rw [if_neg c, if_neg]
    · show some (lines _) = _
      rw [el]
    · rintro (z | z)
      · cases z
      · exact c z
def nextP (s : Script) (t : Option (List Line)) : Option (List Line) := t.bind fun x => if 24 < x.length then none else runP s x
theorem next_eq {s : Script} (h : plain s = true) (t : Option (List Line)) : Vasedd.next s t = nextP s t := by
  unfold Vasedd.next nextP
  cases t with
  | none => rfl
  | some x =>
    show (if LINES < x.length then none else result s x) = if 24 < x.length then none else runP s x
    rw [result_eq h]
    rfl
end Rn

/-! What reading gives: good tokens, lengths, well-formed scripts. -/
namespace Gr
open VasedBase Vaseda

theorem token_kind {l : Bytes} {t : Tok} {n : Nat} (h : token l = some (t, n)) : t ≠ .last ∧ (∀ c, t = .sign c → c = 59) ∧ (∀ b, t = .name b → b ≠ [] ∧ b.length ≤ 8) := by
  unfold token at h
  cases l with
  | nil => cases h
  | cons b r =>
    dsimp only at h
    split at h
    · rename_i c
      split at h
      · cases h
      · rename_i c2
        obtain ⟨e, -⟩ := Prod.mk.inj (Option.some.inj h)
        subst e
        refine ⟨nofun, nofun, fun b' z => ?_⟩
        cases z
        refine ⟨fun z => ?_, Nat.le_of_not_lt c2⟩
        rw [List.takeWhile_cons, if_pos c] at z
        cases z
    · split at h
      · obtain ⟨m, _, e⟩ := Option.map_eq_some_iff.mp h
        obtain ⟨e, -⟩ := Prod.mk.inj e
        subst e
        exact ⟨nofun, nofun, nofun⟩
      · split at h
        · rename_i c
          obtain ⟨e, -⟩ := Prod.mk.inj (Option.some.inj h)
          subst e
          refine ⟨nofun, fun c' z => ?_, nofun⟩
          cases z
          have : b = 59 := by simpa [SIGNS] using c
          rw [this]
          rfl
        · cases h
theorem lex_good : ∀ (n at_ : Nat) (l : Bytes) (ts : Toks), lex n at_ l = .ok ts → Good ts
  | 0, at_, l, ts, h => by
    cases h
    exact Good.end
  | n + 1, at_, [], ts, h => by
    cases h
    exact Good.end
  | n + 1, at_, b :: r, ts, h => by
    unfold lex at h
    split at h
    · exact lex_good n _ _ _ h
    split at h
    · exact lex_good n _ _ _ h
    split at h
    · cases h
    · rename_i x e
      obtain ⟨us, hu, e2⟩ := map_ok h
      subst e2
      obtain ⟨k1, k2, k3⟩ := token_kind (t := x.1) (n := x.2) e
      exact (lex_good n _ _ _ hu).more k1 k2 k3
theorem LX_good {b : Bytes} {k : Nat} {l : Toks} (h : Lx.LX b k = .ok l) : Good l := lex_good _ _ _ _ h
theorem tokens_LX {b : Bytes} (h : b.length ≤ 4096) : tokens b = Lx.LX b 0 := by
  unfold tokens
  rw [if_neg (show ¬ TEXT < b.length from Nat.not_lt.mpr h)]
  rfl

/-! ### lengths -/
theorem len1 (l : Toks) : (l.drop 1).length ≤ l.length := by
  rw [List.length_drop]
  omega
theorem le_letters {l m : Toks} {x : Bytes} (h : takeLetters l = .ok (x, m)) : m.length ≤ l.length := by
  rw [takeLetters_eq] at h
  split at h
  · cases h
    exact len1 l
  · cases h
theorem le_num {l m : Toks} {lo hi n : Nat} (h : takeNum lo hi l = .ok (n, m)) : m.length ≤ l.length := by
  rw [takeNum_eq] at h
  split at h
  · split at h
    · cases h
    · cases h
      exact len1 l
  · cases h
theorem le_to {l m : Toks} (h : takeWord "to" l = .ok m) : m.length ≤ l.length := by
  rw [takeTo_eq] at h
  split at h
  · cases h
    exact len1 l
  · cases h
theorem le_instead {l m : Toks} {x : Bytes} (h : takeInstead l = .ok (x, m)) : m.length ≤ l.length := by
  rw [instead_eq] at h
  split at h
  · cases h
    exact len1 l
  · exact le_letters h
theorem le_bare {l m : Toks} {a : Addr} (h : bare l = .ok (a, m)) : m.length ≤ l.length := by
  have l1 := len1 l
  unfold bare at h
  split at h
  · cases h
    exact l1
  split at h
  · cases h
    exact l1
  split at h
  · obtain ⟨x, hx, e2⟩ := map_ok h
    cases e2
    exact Nat.le_trans (le_num hx) l1
  split at h
  · obtain ⟨x, hx, h⟩ := bind_ok h
    obtain ⟨y, hy, h⟩ := bind_ok h
    obtain ⟨z, hz, e2⟩ := map_ok h
    cases e2
    exact Nat.le_trans (le_num hz) (Nat.le_trans (le_to hy) (Nat.le_trans (le_num hx) l1))
  split at h
  · obtain ⟨x, hx, e2⟩ := map_ok h
    cases e2
    exact Nat.le_trans (le_letters hx) l1
  split at h
  · obtain ⟨x, hx, e2⟩ := map_ok h
    cases e2
    exact Nat.le_trans (le_letters hx) l1
  · cases h
theorem le_addr {l m : Toks} {a : Addr} (h : takeAddr (l.length + 1) 0 l = .ok (a, m)) : m.length ≤ l.length := by
  rw [addr_eq] at h
  split at h
  · cases h
  · obtain ⟨x, hx, e2⟩ := map_ok h
    cases e2
    refine Nat.le_trans (le_bare hx) ?_
    rw [List.length_drop]
    omega
theorem le_two {l m : Toks} {f : Bytes → Bytes → Deed} {d : Deed} (h : takeTwo f l = .ok (d, m)) : m.length ≤ l.length := by
  unfold takeTwo at h
  obtain ⟨x, hx, h⟩ := bind_ok h
  obtain ⟨y, hy, e2⟩ := map_ok h
  cases e2
  exact Nat.le_trans (le_instead hy) (le_letters hx)
/-- what a deed may be -/
theorem deed_cases {l m : Toks} {d : Deed} (h : takeDeed l = .ok (d, m)) :
    (m = l.drop 1 ∧ hs l ≠ 24 ∧ (d = .delete ∨ d = .keep ∨ d = .bring ∨ d = .trade ∨ d = .halt_)) ∨ (∃ x, hs l ≠ 24 ∧ takeLetters (l.drop 1) = .ok (x, m) ∧ (d = .before x ∨ d = .after x ∨ d = .change x)) ∨
      (hs l ≠ 24 ∧ (takeTwo .swap (l.drop 1) = .ok (d, m) ∨ takeTwo .first (l.drop 1) = .ok (d, m))) ∨ (∃ n, hs l ≠ 24 ∧ takeNum 1 9 (l.drop 1) = .ok (n, m) ∧ d = .skip n) := by
  rw [deed_eq] at h
  generalize hz : hs l = z at h
  by_cases a1 : z = 9
  · rw [if_pos a1] at h
    cases h
    exact .inl ⟨rfl, by omega, .inl rfl⟩
  rw [if_neg a1] at h
  by_cases a2 : z = 15
  · rw [if_pos a2] at h
    cases h
    exact .inl ⟨rfl, by omega, .inr (.inl rfl)⟩
  rw [if_neg a2] at h
  by_cases a3 : z = 16
  · rw [if_pos a3] at h
    cases h
    exact .inl ⟨rfl, by omega, .inr (.inr (.inl rfl))⟩
  rw [if_neg a3] at h
  by_cases a4 : z = 17
  · rw [if_pos a4] at h
    cases h
    exact .inl ⟨rfl, by omega, .inr (.inr (.inr (.inl rfl)))⟩
  rw [if_neg a4] at h
  by_cases a5 : z = 19
  · rw [if_pos a5] at h
    cases h
    exact .inl ⟨rfl, by omega, .inr (.inr (.inr (.inr rfl)))⟩
  rw [if_neg a5] at h
  by_cases a6 : z = 10
  · rw [if_pos a6] at h
    obtain ⟨x, hx, e⟩ := map_ok h
    cases e
    exact .inr (.inl ⟨x.1, by omega, hx, .inl rfl⟩)
  rw [if_neg a6] at h
  by_cases a7 : z = 11
  · rw [if_pos a7] at h
    obtain ⟨x, hx, e⟩ := map_ok h
    cases e
    exact .inr (.inl ⟨x.1, by omega, hx, .inr (.inl rfl)⟩)
  rw [if_neg a7] at h
  by_cases a8 : z = 12
  · rw [if_pos a8] at h
    obtain ⟨x, hx, e⟩ := map_ok h
    cases e
    exact .inr (.inl ⟨x.1, by omega, hx, .inr (.inr rfl)⟩)
  rw [if_neg a8] at h
  by_cases a9 : z = 13
  · rw [if_pos a9] at h
    exact .inr (.inr (.inl ⟨by omega, .inl h⟩))
  rw [if_neg a9] at h
  by_cases b1 : z = 14
  · rw [if_pos b1] at h
    exact .inr (.inr (.inl ⟨by omega, .inr h⟩))
  rw [if_neg b1] at h
  by_cases b2 : z = 18
  · rw [if_pos b2] at h
    obtain ⟨x, hx, e⟩ := map_ok h
    cases e
    exact .inr (.inr (.inr ⟨x.1, by omega, hx, rfl⟩))
  rw [if_neg b2] at h
  cases h
theorem le_deed {l m : Toks} {d : Deed} (h : takeDeed l = .ok (d, m)) : m.length ≤ l.length := by
  have l1 := len1 l
  rcases deed_cases h with ⟨e, _⟩ | ⟨x, _, hx, _⟩ | ⟨_, hx | hx⟩ | ⟨n, _, hx, _⟩
  · rw [e]
    exact l1
  · exact Nat.le_trans (le_letters hx) l1
  · exact Nat.le_trans (le_two hx) l1
  · exact Nat.le_trans (le_two hx) l1
  · exact Nat.le_trans (le_num hx) l1
theorem lt_cmd {l m : Toks} {c : Cmd} (g : Good l) (h : takeCmd l = .ok (c, m)) : m.length < l.length := by
  rw [cmd_eq] at h
  obtain ⟨a, ha, h⟩ := bind_ok h
  obtain ⟨d, hd, h⟩ := bind_ok h
  obtain ⟨s, hs', e⟩ := map_ok h
  cases e
  have la : a.2.length ≤ l.length := by
    split at ha
    · exact Nat.le_trans (le_addr (a := a.1) ha) (len1 l)
    · cases ha
      exact Nat.le_refl _
  have ga : Good a.2 := by
    split at ha
    · rename_i e
      exact good_addr (a := a.1) (g.drop1 (by rw [e]; decide)) ha
    · cases ha
      exact g
  have gd := good_deed (d := d.1) ga hd
  have ld := le_deed (d := d.1) hd
  rw [takeSign_eq gd] at hs'
  split at hs'
  · cases hs'
    obtain ⟨t, r, e⟩ := gd.ne
    rw [e] at ld ⊢
    have : r.length + 1 ≤ a.2.length := ld
    show r.length < l.length
    omega
  · cases hs'
end Gr

namespace Rn
open VasedBase Vaseda Vasedb
/-! ### well-formed scripts -/
def nn : Addr → Nat
  | .not a => nn a + 1
  | _ => 0
def okW (w : Bytes) : Prop := w ≠ [] ∧ w.length ≤ 8
structure WfC (c : Cmd) : Prop where
  nots : nn c.a ≤ 3
  has : ∀ w ∈ wordsOf c.a, okW w
  just : ∀ w ∈ justOf c.a, okW w
  put : ∀ w ∈ putOf c.d, okW w
def Wf (s : Script) : Prop := ∀ c ∈ s, WfC c
theorem ok_letters {l m : Toks} {x : Bytes} (g : Gr.Good l) (h : takeLetters l = .ok (x, m)) : okW x := by
  obtain ⟨_, _, ex, e⟩ := Gr.good_letters g h
  obtain ⟨t, r, rfl⟩ := g.ne
  obtain ⟨p, t⟩ := t
  cases t with
  | name b =>
    have := (g.here (by intro z; cases z)).2 b rfl
    rw [ex]
    exact this
  | num n => cases e
  | sign c => cases e
  | last => cases e
theorem wf_bare {l m : Toks} {a : Addr} (g : Gr.Good l) (h : Gr.bare l = .ok (a, m)) : nn a = 0 ∧ (∀ w ∈ wordsOf a, okW w) ∧ (∀ w ∈ justOf a, okW w) := by
  unfold Gr.bare at h
  split at h
  · cases h
    exact ⟨rfl, fun w hw => by simp [wordsOf] at hw, fun w hw => by simp [justOf] at hw⟩
  split at h
  · cases h
    exact ⟨rfl, fun w hw => by simp [wordsOf] at hw, fun w hw => by simp [justOf] at hw⟩
  split at h
  · obtain ⟨x, hx, e2⟩ := Gr.map_ok h
    cases e2
    exact ⟨rfl, fun w hw => by simp [wordsOf] at hw, fun w hw => by simp [justOf] at hw⟩
  split at h
  · obtain ⟨x, hx, h⟩ := Gr.bind_ok h
    obtain ⟨y, hy, h⟩ := Gr.bind_ok h
    obtain ⟨z, hz, e2⟩ := Gr.map_ok h
    cases e2
    exact ⟨rfl, fun w hw => by simp [wordsOf] at hw, fun w hw => by simp [justOf] at hw⟩
  split at h
  · rename_i e
    obtain ⟨x, hx, e2⟩ := Gr.map_ok h
    cases e2
    have := ok_letters (x := x.1) (g.drop1 (by rw [e]; decide)) hx
    exact ⟨rfl, fun w hw => by rw [show w = x.1 from by simpa [wordsOf] using hw]; exact this, fun w hw => by simp [justOf] at hw⟩
  split at h
  · rename_i e
    obtain ⟨x, hx, e2⟩ := Gr.map_ok h
    cases e2
    have := ok_letters (x := x.1) (g.drop1 (by rw [e]; decide)) hx
    exact ⟨rfl, fun w hw => by simp [wordsOf] at hw, fun w hw => by rw [show w = x.1 from by simpa [justOf] using hw]; exact this⟩
  · cases h
theorem nn_nots (n : Nat) (a : Addr) : nn (Gr.nots n a) = n + nn a := by
  induction n with
  | zero => exact (Nat.zero_add _).symm
  | succ n ih => show nn (Gr.nots n a) + 1 = n + 1 + nn a; omega
theorem words_nots (n : Nat) (a : Addr) : wordsOf (Gr.nots n a) = wordsOf a := by
  induction n with
  | zero => rfl
  | succ n ih => exact ih
theorem just_nots (n : Nat) (a : Addr) : justOf (Gr.nots n a) = justOf a := by
  induction n with
  | zero => rfl
  | succ n ih => exact ih
theorem cnt_le : ∀ (k : Nat) (l : Toks), Gr.cnt k l ≤ k
  | 0, _ => Nat.le_refl _
  | k + 1, l => by
    unfold Gr.cnt
    split
    · exact Nat.succ_le_succ (cnt_le k _)
    · exact Nat.zero_le _
theorem wf_addr {l m : Toks} {a : Addr} (g : Gr.Good l) (h : takeAddr (l.length + 1) 0 l = .ok (a, m)) : nn a ≤ 3 ∧ (∀ w ∈ wordsOf a, okW w) ∧ (∀ w ∈ justOf a, okW w) := by
  rw [Gr.addr_eq] at h
  split at h
  · cases h
  · rename_i c
    obtain ⟨x, hx, e2⟩ := Gr.map_ok h
    cases e2
    obtain ⟨h1, h2, h3⟩ := wf_bare (a := x.1) (Gr.good_cnt 4 g) hx
    have := cnt_le 4 l
    rw [nn_nots, words_nots, just_nots]
    exact ⟨by omega, h2, h3⟩
theorem wf_deed {l m : Toks} {d : Deed} (g : Gr.Good l) (h : takeDeed l = .ok (d, m)) : ∀ w ∈ putOf d, okW w := by
  rcases Gr.deed_cases h with ⟨_, _, e | e | e | e | e⟩ | ⟨x, h24, hx, e⟩ | ⟨_, hx | hx⟩ | ⟨n, _, _, e⟩
  iterate 5
    · subst e
      intro w hw
      simp [putOf] at hw
  · have o := ok_letters (g.drop1 h24) hx
    rcases e with e | e | e
    all_goals
      subst e
      intro w hw
      rw [show w = x from by simpa [putOf] using hw]
      exact o
  · unfold takeTwo at hx
    obtain ⟨x, _, hx⟩ := Gr.bind_ok hx
    obtain ⟨y, _, e2⟩ := Gr.map_ok hx
    cases e2
    intro w hw
    simp [putOf] at hw
  · unfold takeTwo at hx
    obtain ⟨x, _, hx⟩ := Gr.bind_ok hx
    obtain ⟨y, _, e2⟩ := Gr.map_ok hx
    cases e2
    intro w hw
    simp [putOf] at hw
  · subst e
    intro w hw
    simp [putOf] at hw
theorem wf_cmd {l m : Toks} {c : Cmd} (g : Gr.Good l) (h : takeCmd l = .ok (c, m)) : WfC c := by
  rw [Gr.cmd_eq] at h
  obtain ⟨a, ha, h⟩ := Gr.bind_ok h
  obtain ⟨d, hd, h⟩ := Gr.bind_ok h
  obtain ⟨s, hs', e⟩ := Gr.map_ok h
  cases e
  have ga : Gr.Good a.2 ∧ nn a.1 ≤ 3 ∧ (∀ w ∈ wordsOf a.1, okW w) ∧ (∀ w ∈ justOf a.1, okW w) := by
    split at ha
    · rename_i e
      have g1 := g.drop1 (by rw [e]; decide)
      exact ⟨Gr.good_addr (a := a.1) g1 ha, wf_addr (a := a.1) g1 ha⟩
    · cases ha
      exact ⟨g, Nat.zero_le _, fun w hw => by simp [wordsOf] at hw, fun w hw => by simp [justOf] at hw⟩
  exact ⟨ga.2.1, ga.2.2.1, ga.2.2.2, wf_deed (d := d.1) ga.1 hd⟩
theorem wf_cmds : ∀ (n : Nat) (cs : Script) (l : Toks) (s : Script), Gr.Good l → Wf cs → cs.length ≤ 16 → takeCmds n cs l = .ok s → Wf s ∧ s.length ≤ 16
  | 0, _, _, _, _, _, _, h => by cases h
  | n + 1, cs, l, s, g, w, hl, h => by
    rw [Gr.cmds_eq] at h
    split at h
    · cases h
      exact ⟨w, hl⟩
    split at h
    · cases h
    · rename_i c
      obtain ⟨x, hx, h⟩ := Gr.bind_ok h
      refine wf_cmds n _ _ s (Gr.good_cmd (c := x.1) g hx) (fun c hc => ?_) (by rw [List.length_append]; show cs.length + 1 ≤ 16; omega) h
      rcases List.mem_append.mp hc with hc | hc
      · exact w c hc
      · rw [show c = x.1 from by simpa using hc]
        exact wf_cmd (c := x.1) g hx
theorem wf_read {b : Bytes} {s : Script} (h : Vaseda.read b = .ok s) : Wf s ∧ s.length ≤ 16 := by
  unfold Vaseda.read at h
  obtain ⟨l, hl, h⟩ := Gr.bind_ok h
  unfold tokens at hl
  split at hl
  · cases hl
  · exact wf_cmds _ _ _ _ (Gr.lex_good _ _ _ _ hl) (fun c hc => by simp at hc) (Nat.zero_le _) h
end Rn

/-! The layer's own additions: dicts whose keys are nested tuples, a list extended by a tuple. -/
namespace Lw
open PySem PySem.Spec PyProof.Rows L2

/-! ### a list extended by a tuple -/
theorem ext_tup (l : Addr) (items : Array Value) (n : Nat) (b : Addr) (items2 : Array Value) (n2 : Nat) (dct : Option Addr) (sl : Array (Option Value)) (h0 : ¬(!items.isEmpty && Builtin.List.listTooLong (items.size + items2.size)) = true) (h1 : items.size ≤ sizeLine) (h2 : items.size + items2.size ≤ sizeLine + 1) :
    Meets (Builtin.«list.extend» ⟨[.ref l, .ref b], []⟩) (fun _ R s => s.heap.get? l = some { cls := .type "list", dict := none, data := .seq items n, slots := #[] } ∧ s.heap.get? b = some { cls := .type "tuple", dict := dct, data := .seq items2 n2, slots := sl } ∧
      R (.ok (.ret Value.none)) { s with heap := s.heap.update l (Obj.mapSeq fun x => x ++ items2), toks := s.toks }) :=
  .of_wp fun prog w A R s h => by
    obtain ⟨hp, g, d, tk, os⟩ := s
    obtain ⟨hl, hb, h⟩ := h
    have f3 := sub_list_list
    have f4 := sub_tuple_list
    have f5 := sub_list_tuple
    have f2 := sub_tuple_tuple
    have hz' : (items ++ items2).size ≤ sizeLine + 1 := by rw [Array.size_append]; exact h2
    wp_walk using (wpAny_updateSeq hl rfl (hz := h1) (_hz' := hz')), wpAny_loadPart' hl, wpAny_loadPart' hb
    exact ⟨_, rfl, h⟩
def rExtT (K : PySem.W.Frag) : V → List V → Hp → VK → Prop := fun x vs H Q => ∃ l b xs zs, x = .ref l ∧ vs = [.ref b] ∧ H l = some (.lst xs) ∧ SqT K H b zs ∧ xs.length + zs.length ≤ sizeLine ∧ Q .non (upd H l (.lst (xs ++ zs)))
theorem mt_extT {X : Cx} : MtR X "list.extend" (rExtT X.K) := by
  intro pins s σ H x vs v us Q I rx rv h
  obtain ⟨l, b, xs, zs, rfl, rfl, hH, hB, hz, q⟩ := h
  cases rx
  obtain ⟨u, rfl, ru⟩ := rv.one
  cases ru
  obtain ⟨z, its, n, r, hl, e⟩ := I.lstM hH
  obtain ⟨its2, r2, ⟨o2, e2, hc2, n2, hd2⟩, z2⟩ := I.tuple hB
  have hl2 := r2.length
  have hsz : its.toArray.size + its2.toArray.size ≤ sizeLine := by rw [List.size_toArray, List.size_toArray]; omega
  have hlong : ¬ (!its.toArray.isEmpty && Builtin.List.listTooLong (its.toArray.size + its2.toArray.size)) = true := by
    rw [notLongL hsz, Bool.and_false]
    exact Bool.false_ne_true
  obtain ⟨c2, d2, dt2, s2⟩ := o2
  subst hc2
  subst hd2
  refine call_meets F.slot_list_extend ⟨_, e, rfl⟩ F.entry_list_extend (F.args_list_extend_2 _ _)
    (ext_tup l its.toArray n b its2.toArray n2 d2 s2 hlong (by rw [List.size_toArray]; omega) (by omega)) ⟨e, e2, ?_⟩
  refine ⟨.non, _, I.lset (its' := its ++ its2) hH e (by simp) (r.append r2) ?_, rfl, q⟩
  rw [List.length_append]
  omega

/-! ### keys that are nested tuples -/
abbrev NK := NestedKey
mutual
inductive NKAt (H : Hp) : NK → V → Prop
  | bl (b : Bool) : NKAt H (.num (if b = true then 1 else 0)) (.bl b)
  | int (i : Int) : NKAt H (.num i) (.int i)
  | tup {a : Addr} {ks : List NK} {xs : List V} : H a = some (.tup xs) → NKAll H ks xs → NKAt H (.tup ks) (.ref a)
inductive NKAll (H : Hp) : List NK → List V → Prop
  | nil : NKAll H [] []
  | cons {k : NK} {v : V} {ks : List NK} {vs : List V} : NKAt H k v → NKAll H ks vs → NKAll H (k :: ks) (v :: vs)
end
mutual
theorem NKAt.same {H H' : Hp} (s : Same H H') : ∀ {k : NK} {v : V}, NKAt H k v → NKAt H' k v
  | _, _, .bl b => .bl b
  | _, _, .int i => .int i
  | _, _, .tup h r => .tup (s _ _ h) (NKAll.same s r)
theorem NKAll.same {H H' : Hp} (s : Same H H') : ∀ {ks : List NK} {vs : List V}, NKAll H ks vs → NKAll H' ks vs
  | _, _, .nil => .nil
  | _, _, .cons h r => .cons (NKAt.same s h) (NKAll.same s r)
end
mutual
theorem NKAt.tups {H H' : Hp} (s : ∀ b xs, H b = some (.tup xs) → H' b = some (.tup xs)) : ∀ {k : NK} {v : V}, NKAt H k v → NKAt H' k v
  | _, _, .bl b => .bl b
  | _, _, .int i => .int i
  | _, _, .tup h r => .tup (s _ _ h) (NKAll.tups s r)
theorem NKAll.tups {H H' : Hp} (s : ∀ b xs, H b = some (.tup xs) → H' b = some (.tup xs)) : ∀ {ks : List NK} {vs : List V}, NKAll H ks vs → NKAll H' ks vs
  | _, _, .nil => .nil
  | _, _, .cons h r => .cons (NKAt.tups s h) (NKAll.tups s r)
end
mutual
theorem nk_is {P : Program} {w : World} {H : Hp} {h : Heap} (ok : HOk P w H h) : ∀ {k : NK} {v : V} {u : Value}, NKAt H k v → RelV v u → NestedIs h k u
  | _, _, u, .bl b, r => by
    obtain rfl : u = Value.bool b := r
    exact .bool rfl
  | _, _, u, .int i, r => by
    obtain ⟨t, rfl⟩ := r
    exact .int i t
  | _, _, u, .tup (a := a) e q, r => by
    obtain rfl : u = Value.ref a := r
    obtain ⟨_, its, rv, o, eo, hc, n, hd⟩ := ok a _ e
    exact .tup eo hc hd (nk_all ok q rv)
theorem nk_all {P : Program} {w : World} {H : Hp} {h : Heap} (ok : HOk P w H h) : ∀ {ks : List NK} {vs : List V} {us : List Value}, NKAll H ks vs → Vals vs us → NestedAll h ks us
  | _, _, _, .nil, .nil => .nil
  | _, _, _, .cons q r, .cons rv rr => .cons (nk_is ok q rv) (nk_all ok r rr)
end

/-! ### the dict -/
/-- what is true of the dict's own object -/
def phi (P : Program) (w : World) (d : Addr) (xs : List (NK × Addr × Value)) (h : Heap) : Prop :=
  ∃ o es ep, h.get? d = some o ∧ o.ExactDict ∧ o.data = .dict es ep ∧ es.toList = xs.map (entryOfKey (nestedKind P w))
structure DN (P : Program) (w : World) (H : Hp) (d : Addr) (kvs : List (NK × V)) : Prop where
  ex : ∃ xs : List (NK × Addr × Value), H d = some (.ext (phi P w d xs)) ∧ (d == sysModules) = false ∧ xs.length ≤ sizeLine ∧ (xs.map (·.1)).Nodup ∧
    Paired (fun (p : NK × V) (q : NK × Addr × Value) => p.1 = q.1 ∧ (NKAt H q.1 (.ref q.2.1) ∧ q.1.depth ≤ 8) ∧ RelV p.2 q.2.2) kvs xs
section
variable {P : Program} {w : World} {H H' : Hp} {h : Heap} {d : Addr} {kvs : List (NK × V)}
theorem phi_ok {xs : List (NK × Addr × Value)} (x : phi P w d xs h) : ObjOk P w H h d (.ext (phi P w d xs)) := by
  obtain ⟨o, es, ep, e, r⟩ := x
  exact ⟨⟨o, es, ep, e, r⟩, ⟨o, e⟩, fun h1 h2 ⟨o1, es1, ep1, e1, r1⟩ k => ⟨o1, es1, ep1, k _ e1, r1⟩⟩
theorem DN.same (s : Same H H') (x : DN P w H d kvs) : DN P w H' d kvs := by
  obtain ⟨xs, e, n, z, nd, r⟩ := x.ex
  exact ⟨xs, s _ _ e, n, z, nd, Paired.mapP r fun p q y => ⟨y.1, ⟨y.2.1.1.same s, y.2.1.2⟩, y.2.2⟩⟩
theorem DN.length (x : DN P w H d kvs) : kvs.length ≤ sizeLine := by
  obtain ⟨xs, e, n, z, nd, r⟩ := x.ex
  rw [Paired.length r]
  exact z
theorem DN.dict (ok : HOk P w H h) (x : DN P w H d kvs) : ∃ xs : List (NK × Addr × Value), (d == sysModules) = false ∧ xs.length ≤ sizeLine ∧ h.DictOfH (nestedKind P w) d xs ∧
    H d = some (.ext (phi P w d xs)) ∧ Paired (fun (p : NK × V) (q : NK × Addr × Value) => p.1 = q.1 ∧ (NKAt H q.1 (.ref q.2.1) ∧ q.1.depth ≤ 8) ∧ RelV p.2 q.2.2) kvs xs := by
  obtain ⟨xs, e, n, z, nd, r⟩ := x.ex
  obtain ⟨⟨o, es, ep, eo, hx, hd, he⟩, _⟩ := ok d _ e
  refine ⟨xs, n, z, ⟨o, es, ep, eo, hx, hd, he, fun y hy => ?_, nd⟩, e, r⟩
  have : ∀ {l : List (NK × V)} {m : List (NK × Addr × Value)}, Paired (fun (p : NK × V) (q : NK × Addr × Value) => p.1 = q.1 ∧ (NKAt H q.1 (.ref q.2.1) ∧ q.1.depth ≤ 8) ∧ RelV p.2 q.2.2) l m → ∀ y ∈ m, NKAt H y.1 (.ref y.2.1) ∧ y.1.depth ≤ 8 := by
    intro l m r
    induction r with
    | nil => intro y hy; simp at hy
    | cons a t ih =>
      intro y hy
      rcases List.mem_cons.mp hy with rfl | hy
      · exact a.2.1
      · exact ih y hy
  obtain ⟨q1, q2⟩ := this r y hy
  exact ⟨nk_is ok q1 rfl, q2⟩
theorem paired_val {F : NK × Addr × Value → Prop} {kvs : List (NK × V)} {xs : List (NK × Addr × Value)} (r : Paired (fun (p : NK × V) (q : NK × Addr × Value) => p.1 = q.1 ∧ F q ∧ RelV p.2 q.2.2) kvs xs) (k : NK) : RelO (valV kvs k) ((atKey xs k).map (·.2)) := by
  induction r with
  | nil => trivial
  | @cons p q l m h t ih =>
    obtain ⟨e, _, rv⟩ := h
    by_cases c : p.1 = k
    · have c' : q.1 = k := e ▸ c
      have e1 : valV (p :: l) k = some p.2 := valV_pos c
      have e2 : atKey (q :: m) k = some q.2 := by simp [atKey, c']
      rw [e1, e2]
      exact rv
    · have c' : ¬ q.1 = k := e ▸ c
      have e1 : valV (p :: l) k = valV l k := valV_neg c
      have e2 : atKey (q :: m) k = atKey m k := by simp [atKey, c']
      rw [e1, e2]
      exact ih
theorem paired_app {α β : Type} {F : α → β → Prop} {l₂ : List α} {m₂ : List β} (b : Paired F l₂ m₂) : ∀ {l₁ : List α} {m₁ : List β}, Paired F l₁ m₁ → Paired F (l₁ ++ l₂) (m₁ ++ m₂)
  | _, _, .nil => b
  | _, _, .cons r t => .cons r (paired_app b t)
theorem paired_put {F : NK × Addr × Value → Prop} {kvs : List (NK × V)} {xs : List (NK × Addr × Value)} (r : Paired (fun (p : NK × V) (q : NK × Addr × Value) => p.1 = q.1 ∧ F q ∧ RelV p.2 q.2.2) kvs xs) (k : NK) {b : Addr} {y : V} {u : Value}
    (hF : ∀ v, F (k, b, v)) (hG : ∀ q v, F q → F (q.1, q.2.1, v)) (ry : RelV y u) : Paired (fun (p : NK × V) (q : NK × Addr × Value) => p.1 = q.1 ∧ F q ∧ RelV p.2 q.2.2) (putK kvs k y) (storedH xs k b u) := by
  have ha : (kvs.any fun kv => decide (kv.1 = k)) = (atKey xs k).isSome := by
    rw [valV_any]
    have q := (paired_val r k).isSome_eq
    rw [Option.isSome_map] at q
    exact q
  unfold putK storedH
  rw [ha]
  by_cases c : (atKey xs k).isSome = true
  · rw [if_pos c, if_pos c]
    clear ha c
    induction r with
    | nil => exact .nil
    | @cons p q l m h t ih =>
      obtain ⟨e, f, rv⟩ := h
      refine .cons ?_ ih
      dsimp only
      by_cases c : p.1 = k
      · have c' : q.1 = k := e ▸ c
        unfold putAt
        rw [if_pos c, if_pos c']
        exact ⟨e, hG q u f, ry⟩
      · have c' : ¬ q.1 = k := e ▸ c
        unfold putAt
        rw [if_neg c, if_neg c']
        exact ⟨e, f, rv⟩
  · rw [if_neg c, if_neg c]
    exact paired_app (.cons ⟨rfl, hF u, ry⟩ .nil) r
end
section
variable {X : Cx} {pins : List (Addr × Obj)} {σ : L2.St} {H : Hp} {s : Shared} {A : Around} {E : Value → Shared → Prop} {d b : Addr} {kvs : List (NK × V)} {k : NK}
theorem room_in1 {A : Around} (hu : A.units + 64 < cLine) {P : Program} {w : World} : (nestedKind P w).room A.in1 := by
  show A.in1.units + 8 < cLine
  have : A.in1.units = A.units + 1 := rfl
  omega
theorem n_getItem {v : V} {Q : Value → Shared → Prop} (hu : A.units + 64 < cLine) (I : Inv X pins σ H s) (g : DN X.prog X.w H d kvs) (hk : NKAt H k (.ref b)) (hd : k.depth ≤ 8) (l : valV kvs k = some v) (h : ∀ w' s', Inv X pins σ H s' → RelV v w' → Q w' s') :
    wpAny (model X.prog X.w) A (getItem (.ref d) (.ref b)) Q E s := by
  obtain ⟨xs, _, _, dd, _, rel⟩ := g.dict I.hok
  obtain ⟨w', hw, rw'⟩ := RelO.some_of (v := v) (o := (atKey xs k).map (·.2)) (by rw [← l]; exact paired_val (F := fun q => NKAt H q.1 (.ref q.2.1) ∧ q.1.depth ≤ 8) rel k)
  obtain ⟨p, hp, hp2⟩ := Option.map_eq_some_iff.mp hw
  refine wpAny_getItem_heap (knd := nestedKind X.prog X.w) (room_in1 hu) ⟨nk_is I.hok hk rfl, hd⟩ dd hp ?_
  rw [hp2]
  exact h w' _ (I.tok _) rw'
theorem n_in {Q : Value → Shared → Prop} (hu : A.units + 64 < cLine) (I : Inv X pins σ H s) (g : DN X.prog X.w H d kvs) (hk : NKAt H k (.ref b)) (hd : k.depth ≤ 8) (h : ∀ s', Inv X pins σ H s' → Q (.bool (!(valV kvs k).isSome)) s') :
    wpAny (model X.prog X.w) A (compareOp .NotIn (.ref b) (.ref d)) Q E s := by
  obtain ⟨xs, n, _, dd, _, rel⟩ := g.dict I.hok
  refine wpAny_notIn_heap (knd := nestedKind X.prog X.w) (room_in1 hu) ⟨nk_is I.hok hk rfl, hd⟩ n dd ?_
  have q := (paired_val (F := fun q => NKAt H q.1 (.ref q.2.1) ∧ q.1.depth ≤ 8) rel k).isSome_eq
  rw [Option.isSome_map] at q
  rw [← q]
  exact h _ (I.tok _)
/-- d alone changes -/
def But (d : Addr) (H H' : Hp) : Prop := ∀ c o, c ≠ d → H c = some o → H' c = some o
theorem n_setItem {v : V} {r : Value} {Q : Unit → Shared → Prop} (hu : A.units + 64 < cLine) (I : Inv X pins σ H s) (g : DN X.prog X.w H d kvs) (hk : NKAt H k (.ref b)) (hd : k.depth ≤ 8) (hl : kvs.length < sizeLine) (rv : RelV v r)
    (h : ∀ H' s', Inv X pins σ H' s' → But d H H' → DN X.prog X.w H' d (putK kvs k v) → Q () s') :
    wpAny (model X.prog X.w) A (setItem (.ref d) (.ref b) r) Q E s := by
  obtain ⟨xs, n, z, dd, e, rel⟩ := g.dict I.hok
  have hz : xs.length < sizeLine := by rw [← Paired.length rel]; exact hl
  refine wpAny_setItem_heap (knd := nestedKind X.prog X.w) (hsz := z) (room_in1 hu) ⟨nk_is I.hok hk rfl, hd⟩ dd fun h' dd' hs => ?_
  obtain ⟨q, es, ep, hq, h2, h3, h4, _, h5⟩ := dd'
  have rel2 := paired_put (F := fun q => NKAt H q.1 (.ref q.2.1) ∧ q.1.depth ≤ 8) (b := b) rel k (fun _ => ⟨hk, hd⟩) (fun _ _ f => f) rv
  have tp : ∀ c ys, H c = some (.tup ys) → upd H d (.ext (phi X.prog X.w d (storedH xs k b r))) c = some (.tup ys) := fun c ys ec => by
    rw [upd_ne (ne_of ec e (fun z => nomatch z))]
    exact ec
  refine h (upd H d (.ext (phi X.prog X.w d (storedH xs k b r)))) _ (d_write I (by rw [e]; exact True.intro) hs ⟨q, hq⟩ (phi_ok ⟨q, es, ep, hq, h2, h3, h4⟩)) (fun c o hc ec => by rw [upd_ne hc]; exact ec) ⟨_, upd_same, n, ?_, h5, Paired.mapP rel2 fun p q y => ⟨y.1, ⟨y.2.1.1.tups tp, y.2.1.2⟩, y.2.2⟩⟩
  rw [← Paired.length rel2]
  have := length_putK kvs k v
  omega
end

/-! ### readings and rules -/
def tNNew (P : Program) (w : World) : TE := fun _ H Q => ∀ p H', H p = none → Same H H' → DN P w H' p [] → Q (.ref p) H'
def tNGet (P : Program) (w : World) (td ty : TE) : TE := fun σ H Q => td σ H fun x H1 => ty σ H1 fun y H2 => ∃ d b kvs k v, x = .ref d ∧ y = .ref b ∧ DN P w H2 d kvs ∧ NKAt H2 k (.ref b) ∧ k.depth ≤ 8 ∧ valV kvs k = some v ∧ Q v H2
def tNNotIn (P : Program) (w : World) (ty td : TE) : TE := fun σ H Q => ty σ H fun y H1 => td σ H1 fun x H2 => ∃ d b kvs k, x = .ref d ∧ y = .ref b ∧ DN P w H2 d kvs ∧ NKAt H2 k (.ref b) ∧ k.depth ≤ 8 ∧ Q (.bl (!(valV kvs k).isSome)) H2
def sNPut (P : Program) (w : World) (td ty tv : TE) : TS := fun D σ H => tv σ H fun v H1 => td σ H1 fun x H2 => ty σ H2 fun y H3 => ∃ d b kvs k, x = .ref d ∧ y = .ref b ∧ DN P w H3 d kvs ∧ NKAt H3 k (.ref b) ∧ k.depth ≤ 8 ∧ kvs.length < sizeLine ∧
  ∀ H', But d H3 H' → DN P w H' d (putK kvs k v) → D.nx σ H'
section
variable {X : Cx} {o i value : Expr} {td ty tv : TE} {pos pos' : Pos}
theorem pe_nnew : PE X (.Dict [] [] pos) (tNNew X.prog X.w) := ⟨fun pins s σ H Q I h => by
  have hf : H s.heap.objs.size = none := I.hok.fresh (Nat.le_refl _)
  have hb := I.big
  have ph : phi X.prog X.w s.heap.objs.size [] (s.heap.push { cls := .type "dict", data := .dict #[] }) := ⟨_, #[], 0, Heap.get?_push_size _ rfl, ⟨rfl, rfl, rfl⟩, rfl, rfl⟩
  have J : Inv X pins σ (upd H s.heap.objs.size (.ext (phi X.prog X.w s.heap.objs.size []))) { s with heap := s.heap.push { cls := .type "dict", data := .dict #[] }, toks := s.toks } :=
    I.laid (fun b u e => Heap.get?_push_of_some _ e) (Nat.le_refl _) (phi_ok ph)
  have q := h s.heap.objs.size (upd H s.heap.objs.size (.ext (phi X.prog X.w s.heap.objs.size []))) hf (fun b o e => by rw [upd_ne (ne_of_none e hf)]; exact e)
    ⟨[], upd_same, beq_false_of_ne (Nat.ne_of_gt hb), Nat.zero_le _, List.nodup_nil, .nil⟩
  exact wpAny_Dict_empty ⟨.ref s.heap.objs.size, _, J, rfl, q⟩⟩
theorem pe_nget (hu : X.A.units + 64 < cLine) (ho : PE X o td) (hi : PE X i ty) (hs : NoSl i) : PE X (.Subscript o i pos) (tNGet X.prog X.w td ty) := by
  refine ⟨fun pins s σ H Q I h => ?_⟩
  refine subD_of PySem.F.slot_dict_getitem.lookup hs (thn (ho.run pins s σ H _ I h) fun u s1 ⟨x, H1, I1, rx, q1⟩ => thn (hi.run pins s1 σ H1 _ I1 q1) fun iv s2 ⟨y, H2, I2, ry, d, b, kvs, k, v, ex, ey, g, hk, hd, l, q2⟩ => ?_)
  subst ex
  subst ey
  obtain rfl : u = Value.ref d := rx
  obtain rfl : iv = Value.ref b := ry
  obtain ⟨xs, _, _, dd, _, _⟩ := g.dict I2.hok
  exact ⟨dd.typeIs, n_getItem hu I2 g hk hd l fun w' s3 I3 rw' => ⟨v, H2, I3, rw', q2⟩⟩
theorem pc_nnotin (hu : X.A.units + 64 < cLine) (hi : PE X i ty) (ho : PE X o td) : PC X .NotIn i o (tNNotIn X.prog X.w ty td) := by
  refine ⟨fun pins s σ H Q I h => ?_⟩
  refine thn (hi.run pins s σ H _ I h) fun iv s1 ⟨y, H1, I1, ry, q1⟩ => thn (ho.run pins s1 σ H1 _ I1 q1) fun u s2 ⟨x, H2, I2, rx, d, b, kvs, k, ex, ey, g, hk, hd, q2⟩ => ?_
  subst ex
  subst ey
  obtain rfl : u = Value.ref d := rx
  obtain rfl : iv = Value.ref b := ry
  exact n_in hu I2 g hk hd fun s3 I3 => ⟨.bl _, H2, I3, rfl, q2⟩
theorem ps_nput (hu : X.A.units + 64 < cLine) (ho : PE X o td) (hi : PE X i ty) (hv : PE X value tv) (hs : swapsWith value (some (.Subscript o i pos')) pos.line X.env = pure false) :
    PS X (.Assign [.Subscript o i pos'] value pos) (sNPut X.prog X.w td ty tv) := by
  refine ⟨fun pins s σ H D I h => ?_⟩
  refine wpAny_Assign_Subscript (thn (hv.run pins s σ H _ I h) fun r s1 ⟨v, H1, I1, rv, q1⟩ => thn (ho.run pins s1 σ H1 _ I1 q1) fun u s2 ⟨x, H2, I2, rx, q2⟩ => thn (hi.run pins s2 σ H2 _ I2 q2) fun iv s3 ⟨y, H3, I3, ry, d, b, kvs, k, ex, ey, g, hk, hd, hl, q3⟩ => ?_) hs
  subst ex
  subst ey
  obtain rfl : u = Value.ref d := rx
  obtain rfl : iv = Value.ref b := ry
  exact n_setItem hu I3 g hk hd hl rv fun H4 s4 I4 nb dn => ⟨σ, H4, I4, q3 H4 nb dn⟩
end
end Lw

/-! An error's class over Exception, whose own __init__ stores fields: made and raised. -/
namespace Lw
open PySem PySem.Spec PyProof.Rows L2
abbrev exRest : List Value := [.type "Exception", .type "BaseException", .type "object"]
section
open Builtin Builtin.ObjectAttr PySem.HandSPX PySem.OEX
variable {prog : Program} {w : World} {A : Around} {E : Value → Shared → Prop} {R : Result → Shared → Prop} {hp : Heap} {g : Array GenState} {d : Drawn} {t : Nat} {os : OsState}
theorem pass_ex (self : Value) (C : Addr) : refuseLoop self "__setattr__" (.ref C :: exRest) = pure () := by
  rw [refuseLoop_ref]
  exact F.store_Exception.passes _
/-- the first field of such an error -/
theorem first_field {K : W.Frag} {name : Str} {tk : Tok} {v : Value} {x C : Addr} {fv : Array Value} {cd : ClassData} (X : K.In hp) (hx : hp.get? x = some { cls := .ref C, data := .fields fv }) (hcd : W.clsIn K C = some cd) (hm : cd.mro = .ref C :: exRest) (hh : cd.hasDict = true)
    (ha : W.findIn K (.ref C) name = some none)
    (hq : ∀ h' tk' dx, (∀ b o, b ≠ x → hp.get? b = some o → h'.get? b = some o) → hp.objs.size ≤ dx → dx ≠ x → h'.get? x = some { cls := .ref C, dict := some dx, data := .fields fv } →
      h'.Ns1 dx (fun y => if y = name then some v else none) → R (.ok (.ret .none)) ⟨h', g, d, tk', os⟩) :
    codeAny (model prog w) A (.call (.builtin "object.__setattr__") ⟨[.ref x, .str name tk, v], []⟩) R ⟨hp, g, d, t, os⟩ := by
  have J : W.InstAt hp x { cls := .ref C, data := .fields fv } C none := ⟨hx, rfl, rfl, trivial⟩
  have S := F.store_object
  have hxs : x ≠ hp.objs.size := Nat.ne_of_lt (Heap.lt_size hx)
  have isO : W.Looks (model prog w) hp (isInstance (.ref x) (.type "object")) true := J.type.andThen (W.looks_mroIn X (by unfold W.mroIn; rw [hcd, Option.bind_some, hm] <;> rfl))
  refine codeAny_call_builtin S.slot.plain S.entry (@W.check_slot (model prog w) _ _ ⟨hp, g, d, t, os⟩ "object.__setattr__" "object" "__setattr__" (.ref x) [.str name tk, v] [] _ S.kind S.split isO (S.args (.ref x) (.str name tk) v) ?_)
  have mroL : W.Looks (model prog w) hp (mroOf (.ref C)) cd.mro := (W.looks_clsIn X hcd).andThen .now
  have taker : W.Looks (model prog w) hp (storeTaker? none) none := .now
  have clsL : W.Looks (model prog w) hp (classData C) cd := W.looks_clsIn X hcd
  rw [W.osa_eq, refuse_eq]
  refine wpAny_bind (wpAny_bind (J.type.at (wpAny_bind (mroL.at ?_))))
  rw [hm, pass_ex]
  refine wpAny_pure (wpAny_bind (J.type.at (wpAny_bind ((W.looks_findIn X ha).at (wpAny_bind (taker.at ?_))))))
  show wpAny _ _ (storeInOwnDict (.ref x) (.ref C) (.str name tk) name v false) _ _ _
  obtain ⟨nm, bs, mro, ns, qn, hd, sn, sb, ab, col, del⟩ := cd
  dsimp only at hh
  subst hh
  unfold storeInOwnDict ownDictForStores
  repeat (first | with_reducible refine store_in_new ?_ ?_ | with_reducible refine wpAny_loadPart_at hx ?_ | with_reducible refine clsL.at ?_ | wp_step)
  · exact ⟨_, #[], _, (Heap.get?_update_ne _ _ _ _ hxs.symm).trans (Heap.get?_push_at rfl rfl), rfl, fun e he => absurd he (by simp), fun _ => rfl⟩
  · intro h' tk' hn' hs
    have hx2 : (hp.push { cls := .type "dict", data := .dict #[] }).get? x = some { cls := .ref C, data := .fields fv } := Heap.get?_push_of_some _ hx
    refine hq h' tk' hp.objs.size (fun b o hb ho => ?_) (Nat.le_refl _) hxs.symm ?_ hn'
    · exact (hs.2 b (Nat.ne_of_lt (Heap.lt_size ho))).trans ((Heap.get?_update_ne _ _ _ _ hb).trans (Heap.get?_push_of_some _ ho))
    · exact (hs.2 x hxs).trans (Heap.get?_update_self _ hx2 rfl)
/-- a further one -/
theorem more_field {K : W.Frag} {name : Str} {tk : Tok} {v : Value} {x C dx : Addr} {fv : Array Value} {cd : ClassData} {m0 : Str → Option Value} {nl : List Str} (X : K.In hp)
    (hx : hp.get? x = some { cls := .ref C, dict := some dx, data := .fields fv }) (hns : hp.Ns1 dx m0) (hw : PySem.Within m0 nl) (hz : nl.length ≤ 1000) (hcd : W.clsIn K C = some cd) (hm : cd.mro = .ref C :: exRest) (hh : cd.hasDict = true) (ha : W.findIn K (.ref C) name = some none)
    (hq : ∀ h' tk', (∀ b o, b ≠ dx → hp.get? b = some o → h'.get? b = some o) → h'.Ns1 dx (fun y => if y = name then some v else m0 y) → R (.ok (.ret .none)) ⟨h', g, d, tk', os⟩) :
    codeAny (model prog w) A (.call (.builtin "object.__setattr__") ⟨[.ref x, .str name tk, v], []⟩) R ⟨hp, g, d, t, os⟩ := by
  obtain ⟨oD, esD, epD, hoD, hdD, _⟩ := hns.count hw
  have J : W.InstAt hp x { cls := .ref C, dict := some dx, data := .fields fv } C (some oD) := ⟨hx, rfl, rfl, hoD⟩
  have S := F.store_object
  have isO : W.Looks (model prog w) hp (isInstance (.ref x) (.type "object")) true := J.type.andThen (W.looks_mroIn X (by unfold W.mroIn; rw [hcd, Option.bind_some, hm] <;> rfl))
  refine codeAny_call_builtin S.slot.plain S.entry (@W.check_slot (model prog w) _ _ ⟨hp, g, d, t, os⟩ "object.__setattr__" "object" "__setattr__" (.ref x) [.str name tk, v] [] _ S.kind S.split isO (S.args (.ref x) (.str name tk) v) ?_)
  have mroL : W.Looks (model prog w) hp (mroOf (.ref C)) cd.mro := (W.looks_clsIn X hcd).andThen .now
  have taker : W.Looks (model prog w) hp (storeTaker? none) none := .now
  have clsL : W.Looks (model prog w) hp (classData C) cd := W.looks_clsIn X hcd
  rw [W.osa_eq, refuse_eq]
  refine wpAny_bind (wpAny_bind (J.type.at (wpAny_bind (mroL.at ?_))))
  rw [hm, pass_ex]
  refine wpAny_pure (wpAny_bind (J.type.at (wpAny_bind ((W.looks_findIn X ha).at (wpAny_bind (taker.at ?_))))))
  show wpAny _ _ (storeInOwnDict (.ref x) (.ref C) (.str name tk) name v false) _ _ _
  obtain ⟨nm, bs, mro, ns, qn, hd, sn, sb, ab, col, del⟩ := cd
  dsimp only at hh
  subst hh
  unfold storeInOwnDict ownDictForStores
  repeat (first | with_reducible refine store_in_old hns hw hz ?_ | with_reducible refine wpAny_loadPart_at hx ?_ | with_reducible refine clsL.at ?_ | wp_step)
  intro h' tk' hn' hs
  exact hq h' tk' (fun b o hb ho => (hs.2 b hb).trans ho) hn'
end
/-- what the written part says of the class -/
structure ExC (K : PySem.W.Frag) (C : Addr) : Prop where
  cls : ∃ nm q N bs sn sub ab col dd k0 k1 k2 k3 k5, K.lookup C = some (excClassObj nm q C N bs exRest true sn sub ab col dd k0 k1 k2 k3 k5 "Exception.__new__")
  sa : PySem.W.findIn K (.ref C) "__setattr__" = some (some (.builtin "object.__setattr__"))
  exC : PySem.W.subIn K (.ref C) (.type "BaseException") = some true
  tyC : PySem.W.typeIn K (.ref C) = some (.type "type")
  kC : PySem.W.keepIn K (.ref C) = true
section
variable {X : Cx} {pins : List (Addr × Obj)} {σ : L2.St} {H : Hp} {s : Shared} {a C dx : Addr} {f : Str} {y : V} {u : Value} {fs : List (Str × V)} {Q : Unit → Shared → Prop} {E : Value → Shared → Prop} {A : Around}
theorem set_first (T : ExC X.K C) (I : Inv X pins σ H s) (e : H a = some (exo a C none)) (hno : PySem.W.findIn X.K (.ref C) f = some none) (ry : RelV y u)
    (h : ∀ dx s', H dx = none → dx ≠ a → Inv X pins σ (upd (upd H dx (exd dx [(f, y)])) a (exo a C (some dx))) s' → Q () s') : wpAny (model X.prog X.w) A (setAttr (.ref a) f u) Q E s := by
  obtain ⟨nm, q, N, bs, sn, sub, ab, col, dd, k0, k1, k2, k3, k5, hC⟩ := T.cls
  have hcl : PySem.W.clsIn X.K C = some { name := nm, bases := bs, mro := .ref C :: exRest, ns := N, qualname := q, hasDict := true, slotNames := sn, subclasses := sub, abstract := ab, collection := col, hasDel := false } := by unfold PySem.W.clsIn; rw [hC] <;> rfl
  obtain ⟨t1, ho⟩ := exo_at I.hok e
  obtain ⟨hp, g, d, t, os⟩ := s
  refine PySem.W.set_plain I.kIn (ox := { cls := .ref C, dict := none, data := .fields #[.ref t1, .none, .none, .none, .bool false, .none] }) (od := none) ⟨ho, rfl, rfl, trivial⟩ T.sa ?_
  refine first_field I.kIn ho hcl rfl rfl hno (fun h' tk' dx k dn dne hx hn => ?_)
  have free : H dx = none := I.hok.fresh dn
  have old : ∀ {b : Addr} {o : Obj}, hp.get? b = some o → b ≠ dx := fun {b o} q => Nat.ne_of_lt (Nat.lt_of_lt_of_le (Heap.lt_size q) dn)
  have oth : ∀ {b : Addr}, H b = none → b ≠ a := fun {b} n z => by
    rw [z, e] at n
    cases n
  have U : Un X.fs [] H (upd (upd H dx (exd dx [(f, y)])) a (exo a C (some dx))) hp h' := {
    keep := fun b o q n _ _ => k b o (oth n) q
    slot := fun b o q n _ _ => ⟨o.slots, k b o (oth n) q⟩
    free := fun b o q n _ => by rw [upd_ne (oth n), upd_ne (old q)]; exact n
    there := fun b o q _ => by
      by_cases hb : b = a
      · exact ⟨_, by rw [hb]; exact hx⟩
      · exact ⟨o, k b o hb q⟩
    tups := fun b xs q => by rw [upd_ne (at_ne e q exo_tup), upd_ne (ne_of_none q free)]; exact q
    frzs := fun b o v q => by rw [upd_ne (at_ne e q exo_frz), upd_ne (ne_of_none q free)]; exact q
    tbls := fun b ps q => ⟨#[], by rw [upd_ne (at_ne e q exo_tbl), upd_ne (ne_of_none q free), q]; simp⟩ }
  refine h dx _ free dne (I.un (t' := tk') U fun b o q => ?_)
  by_cases hb : b = a
  · subst hb
    rw [upd_same] at q
    cases q
    exact exo_ok hx
  · rw [upd_ne hb] at q
    by_cases hd : b = dx
    · subst hd
      rw [upd_same] at q
      cases q
      exact exd_ok hn (relO_put (fs := []) ry fun g => True.intro)
    · rw [upd_ne hd] at q
      refine (I.hok b o q).stay (fun c v hc z => k c v ?_ z) (fun c hc => ?_) (fun c xs hc => ?_)
      · rcases hc with hc | hc
        · rw [hc]
          exact hb
        · exact at_ne e hc exo_own
      · rw [upd_ne (at_ne e hc exo_own), upd_ne (ne_of_none hc free)]
        exact hc
      · rw [upd_ne (at_ne e hc exo_tup), upd_ne (ne_of_none hc free)]
        exact hc
theorem set_more (T : ExC X.K C) (I : Inv X pins σ H s) (e : H a = some (exo a C (some dx))) (ed : H dx = some (exd dx fs)) (hl : fs.length ≤ 900) (hno : PySem.W.findIn X.K (.ref C) f = some none) (ry : RelV y u)
    (h : ∀ s', Inv X pins σ (upd H dx (exd dx ((f, y) :: fs))) s' → Q () s') : wpAny (model X.prog X.w) A (setAttr (.ref a) f u) Q E s := by
  obtain ⟨nm, q, N, bs, sn, sub, ab, col, dd, k0, k1, k2, k3, k5, hC⟩ := T.cls
  have hcl : PySem.W.clsIn X.K C = some { name := nm, bases := bs, mro := .ref C :: exRest, ns := N, qualname := q, hasDict := true, slotNames := sn, subclasses := sub, abstract := ab, collection := col, hasDel := false } := by unfold PySem.W.clsIn; rw [hC] <;> rfl
  obtain ⟨t1, ho⟩ := exo_at I.hok e
  obtain ⟨mA, hns, rel⟩ := exd_at I.hok ed
  have hw := within_of rel
  obtain ⟨hp, g, d, t, os⟩ := s
  obtain ⟨oD, _, _, hoD, _, _⟩ := hns.count hw
  refine PySem.W.set_plain I.kIn (ox := { cls := .ref C, dict := some dx, data := .fields #[.ref t1, .none, .none, .none, .bool false, .none] }) (od := some oD) ⟨ho, rfl, rfl, hoD⟩ T.sa ?_
  refine more_field I.kIn ho hns hw (by rw [List.length_map]; omega) hcl rfl rfl hno (fun h' tk' k hn => ?_)
  have hd : ∃ o, h'.get? dx = some o := by
    obtain ⟨o, _, _, e', _⟩ := hn
    exact ⟨o, e'⟩
  exact h _ (I.write (t' := tk') (x := dx) (e := dx) (o := exd dx ((f, y) :: fs)) (by rw [ed]; exact True.intro) (.inl rfl) k hd (exd_ok hn (relO_put ry rel)))
end
/-- self.f = e of such an error -/
def sXf (K : PySem.W.Frag) (f : Str) (to te : TE) : TS := fun D σ H => te σ H fun y H1 => to σ H1 fun x H2 => ∃ a C : Addr, x = .ref a ∧ ExC K C ∧ PySem.W.findIn K (.ref C) f = some none ∧
  ((H2 a = some (exo a C none) ∧ ∀ dx, H2 dx = none → dx ≠ a → D.nx σ (upd (upd H2 dx (exd dx [(f, y)])) a (exo a C (some dx)))) ∨
    ∃ (dx : Addr) (fs : List (Str × V)), H2 a = some (exo a C (some dx)) ∧ H2 dx = some (exd dx fs) ∧ fs.length ≤ 900 ∧ D.nx σ (upd H2 dx (exd dx ((f, y) :: fs))))
section
variable {X : Cx} {o e : Expr} {es : List Expr} {to te : TE} {ta : TA} {f : Str} {p p' p1 p2 pos : Pos}
theorem ps_xf (ho : PE X o to) (he : PE X e te) (hs : swapsWith e (some (.Attribute o f p')) pos.line X.env = pure false := by rfl) : PS X (.Assign [.Attribute o f p'] e pos) (sXf X.K f to te) := by
  refine ⟨fun pins s σ H D I h => ?_⟩
  refine plainObj_wpAny_Assign_Attribute (thn (he.run pins s σ H _ I h) fun v s1 ⟨y, H1, I1, r1, q1⟩ => thn (ho.run pins s1 σ H1 _ I1 q1) fun u s2 ⟨x, H2, I2, r2, a, C, ex, T, hno, q⟩ => ?_) hs
  subst ex
  obtain rfl : u = Value.ref a := r2
  rcases q with ⟨ea, q⟩ | ⟨dx, fs, ea, ed, hl, q⟩
  · exact set_first T I2 ea hno r1 fun dx s' n ne J => ⟨σ, _, J, q dx n ne⟩
  · exact set_more T I2 ea ed hl hno r1 fun s' J => ⟨σ, _, J, q⟩
/-- C(e, ..) -/
theorem pmk_ex {CX : CXT} {x : Str} {C fI : Addr} {k : Nat} {fd : FuncData} {ps : List Str} {sp : Sp} {ds : List Value} {dvs : List V} (T : ExC X.K C) (iC : PySem.W.findIn X.K (.ref C) "__init__" = some (some (.ref fI))) (tI : PySem.W.typeIn X.K (.ref fI) = some (.type "function"))
    (F1 : FnOk X.prog X.w X.K X.mg X.base CX k fI fd ps sp) (hr : Room (k + 1) X.A) (hb : Binds X.K fd ps ds) (hd : Vals dvs ds) (hx : Passes CX X (fun _ _ _ => False)) (hg : Gl X x) (hm : X.mg x = some (.ref C)) (ha : PA X (e :: es) ta)
    (hdb : (x == ("__debug__" : Str)) = false := by decide) (he : starEach (e :: es) X.env = (false, eval e X.env) :: starEach es X.env := by rfl) (hpl : (backTo pos (starEach es X.env)).any (·.1) = false := by rfl) :
    PMk X (.Call (.Name x p) (e :: es) [] pos) (tMkO C sp dvs ta) := by
  intro pins s σ H Q I h
  obtain ⟨nm, q, N, bs, sn, sub, ab, col, dd, k0, k1, k2, k3, k5, hC⟩ := T.cls
  refine wpAny_Call_Name_kw (ld_glob I hg hm ?_ hdb)
  refine PySem.W.callWith_K (h₀ := X.base) I.ok.mod.kin T.kC (thn (ha.run pos pins s σ H _ I h) fun us s1 ⟨vs, H1, I1, r1, hz, q1⟩ => ⟨I1.kIn, ?_⟩) he hpl
  show wpAny _ _ (call (.ref C) us) _ _ _
  obtain ⟨hp, g, dr, tk, os⟩ := s1
  have hsz : hp.objs.size ≤ hp.objs.size + 1 := Nat.le_succ _
  have hn : H1 (hp.objs.size + 1) = none := I1.hok.fresh hsz
  have hq := q1 (hp.objs.size + 1) hn
  have kk : ∀ b o, hp.get? b = some o → ((hp.push (PySem.W.kdv_tup us)).push (PySem.HandSPX.excO C hp.objs.size)).get? b = some o := fun b o e => Heap.get?_push_of_some _ (Heap.get?_push_of_some _ e)
  have hget : ((hp.push (PySem.W.kdv_tup us)).push (PySem.HandSPX.excO C hp.objs.size)).get? (hp.objs.size + 1) = some (PySem.HandSPX.excO C hp.objs.size) := by heap_get
  have I2 : Inv X pins σ (upd H1 (hp.objs.size + 1) (exo (hp.objs.size + 1) C none)) ⟨(hp.push (PySem.W.kdv_tup us)).push (PySem.HandSPX.excO C hp.objs.size), g, dr, tk, os⟩ :=
    I1.laid (t' := tk) (a := hp.objs.size + 1) (o := exo (hp.objs.size + 1) C none) (h' := (hp.push (PySem.W.kdv_tup us)).push (PySem.HandSPX.excO C hp.objs.size)) kk hsz (exo_ok hget)
  have r2 : Vals (V.ref (hp.objs.size + 1) :: (vs ++ dvs)) (Value.ref (hp.objs.size + 1) :: (us ++ ds)) := .cons rfl (r1.append hd)
  have hl : (Value.ref (hp.objs.size + 1) :: us ++ ds).length = ps.length := by
    have e := r2.length
    rw [F1.len _ _ _ _ hq] at e
    exact e.symm
  have hus : us.length ≤ sizeLine := by
    rw [← Paired.length r1, sizeLine_eq]
    omega
  have hT : ∀ Y : String, exRest.contains (.type Y) = exRest.contains (.type Y) := fun _ => rfl
  refine wpAny_call (PySem.HandSPX.call_own F.excBase_Exception hT (I1.kIn _ _ hC) (PySem.W.looks_findIn I1.kIn iC) (fun self => PySem.W.bind_fn I1.kIn self tI) hus
    (codeAny_mono (F1.run _ X.stack _ _ ⟨Value.ref (hp.objs.size + 1) :: us, []⟩ (Value.ref (hp.objs.size + 1) :: (us ++ ds)) _ _ (fun _ _ _ => False) (hr.make C us []) (I2.env0.make C us []) (hb _ (Value.ref (hp.objs.size + 1) :: us) I2.kIn hl) r2 hq) fun r s' hq' => ?_))
  cases r with
  | error er => exact hx pins σ _ _ er s' I2 hq'
  | ok fl =>
    cases fl with
    | ret u =>
      obtain ⟨v, H2, os2, bare2, un2, hok2, rv, ev, d, fs, ea, ed, hd1, q2⟩ := hq'
      subst ev
      obtain ⟨h2, g2, d2, t2, os'⟩ := s'
      exact ⟨rv, mk_end (raises_own T.exC T.tyC) I1 hsz kk un2 hok2 os2 bare2 ea ed hd1 q2⟩
    | next => exact False.elim hq'
    | brk => exact False.elim hq'
    | cont => exact False.elim hq'
end
end Lw

/-! The text by places, what its top is to say, the calls' rules, what lies in the heap. -/
namespace Lw
open PySem PySem.Spec PyProof.Rows L2
open VasedBase (Bytes PTok Toks)
open Vaseda (Deed Cmd Script Line)

def top (i : Nat) : Stmt := PySem.Challenge.pw_linescriptsworks_s01_answers.main.body.getD i (.Pass ⟨0, 0, 0, 0⟩)
/-- the own words as texts -/
def ownV : List V := [.str "if", .str "all", .str "line", .str "from", .str "to", .str "last", .str "has", .str "is", .str "not", .str "delete", .str "before", .str "after", .str "change", .str "swap", .str "first", .str "keep", .str "bring", .str "trade", .str "skip", .str "stop", .str "none"]
abbrev s_spells : Stmt := top 27
abbrev N_spells : List Str := ["word", "text", "at"]
abbrev P_spells : List Str := ["word", "text"]
abbrev s_sort_of_word : Stmt := top 28
abbrev N_sort_of_word : List Str := ["word", "sort"]
abbrev P_sort_of_word : List Str := ["word"]
abbrev s_Fault_init : Stmt := inClass (top 30) 0
abbrev N_Fault_init : List Str := ["self", "code", "place"]
abbrev P_Fault_init : List Str := ["self", "code", "place"]
abbrev s_Token_init : Stmt := inClass (top 31) 0
abbrev N_Token_init : List Str := ["self", "what", "place", "word", "amount"]
abbrev P_Token_init : List Str := ["self", "what", "place", "word", "amount"]
abbrev s_is_blank : Stmt := top 32
abbrev N_is_blank : List Str := ["byte"]
abbrev P_is_blank : List Str := ["byte"]
abbrev s_is_letter : Stmt := top 33
abbrev N_is_letter : List Str := ["byte"]
abbrev P_is_letter : List Str := ["byte"]
abbrev s_is_digit : Stmt := top 34
abbrev N_is_digit : List Str := ["byte"]
abbrev P_is_digit : List Str := ["byte"]
abbrev s_remark_end : Stmt := top 35
abbrev N_remark_end : List Str := ["script", "at", "place"]
abbrev P_remark_end : List Str := ["script", "at"]
abbrev s_past_blanks : Stmt := top 36
abbrev N_past_blanks : List Str := ["script", "at", "place"]
abbrev P_past_blanks : List Str := ["script", "at"]
abbrev s_run_end : Stmt := top 37
abbrev N_run_end : List Str := ["script", "at", "low", "high", "place"]
abbrev P_run_end : List Str := ["script", "at", "low", "high"]
abbrev s_number_of : Stmt := top 38
abbrev N_number_of : List Str := ["script", "at", "end", "amount", "place"]
abbrev P_number_of : List Str := ["script", "at", "end"]
abbrev s_word_token : Stmt := top 39
abbrev N_word_token : List Str := ["script", "at", "end", "word"]
abbrev P_word_token : List Str := ["script", "at"]
abbrev s_number_token : Stmt := top 40
abbrev N_number_token : List Str := ["script", "at", "end", "amount"]
abbrev P_number_token : List Str := ["script", "at"]
abbrev s_token_at : Stmt := top 41
abbrev N_token_at : List Str := ["script", "at", "byte"]
abbrev P_token_at : List Str := ["script", "at"]
abbrev s_read_tokens : Stmt := top 42
abbrev N_read_tokens : List Str := ["script", "tokens", "at", "token", "end"]
abbrev P_read_tokens : List Str := ["script"]
abbrev s_Address_init : Stmt := inClass (top 44) 0
abbrev N_Address_init : List Str := ["self", "nots", "what", "low", "high", "word"]
abbrev P_Address_init : List Str := ["self", "nots", "what", "low", "high", "word"]
abbrev s_Deed_init : Stmt := inClass (top 45) 0
abbrev N_Deed_init : List Str := ["self", "what", "word", "many"]
abbrev P_Deed_init : List Str := ["self", "what", "word", "many"]
abbrev s_Reader_init : Stmt := inClass (top 46) 0
abbrev N_Reader_init : List Str := ["self", "tokens"]
abbrev P_Reader_init : List Str := ["self", "tokens"]
abbrev s_Reader_now : Stmt := inClass (top 46) 1
abbrev N_Reader_now : List Str := ["self"]
abbrev P_Reader_now : List Str := ["self"]
abbrev s_Reader_take : Stmt := inClass (top 46) 2
abbrev N_Reader_take : List Str := ["self"]
abbrev P_Reader_take : List Str := ["self"]
abbrev s_take_sort : Stmt := top 47
abbrev N_take_sort : List Str := ["reader", "what", "token"]
abbrev P_take_sort : List Str := ["reader", "what"]
abbrev s_take_letters : Stmt := top 48
abbrev N_take_letters : List Str := ["reader", "word"]
abbrev P_take_letters : List Str := ["reader"]
abbrev s_take_letters_or_none : Stmt := top 49
abbrev N_take_letters_or_none : List Str := ["reader"]
abbrev P_take_letters_or_none : List Str := ["reader"]
abbrev s_take_number : Stmt := top 50
abbrev N_take_number : List Str := ["reader", "low", "high", "token"]
abbrev P_take_number : List Str := ["reader", "low", "high"]
abbrev s_read_nots : Stmt := top 51
abbrev N_read_nots : List Str := ["reader", "nots"]
abbrev P_read_nots : List Str := ["reader"]
abbrev s_read_address : Stmt := top 52
abbrev N_read_address : List Str := ["reader", "nots", "token", "low", "high", "word"]
abbrev P_read_address : List Str := ["reader"]
abbrev s_read_deed : Stmt := top 53
abbrev N_read_deed : List Str := ["reader", "token", "word", "many"]
abbrev P_read_deed : List Str := ["reader"]
abbrev s_read_command : Stmt := top 54
abbrev N_read_command : List Str := ["reader", "address", "deed"]
abbrev P_read_command : List Str := ["reader"]
abbrev s_read_script : Stmt := top 55
abbrev N_read_script : List Str := ["script", "reader", "commands", "turn"]
abbrev P_read_script : List Str := ["script"]
abbrev s_looked_for : Stmt := top 57
abbrev N_looked_for : List Str := ["commands", "words", "address", "deed"]
abbrev P_looked_for : List Str := ["commands"]
abbrev s_own_words : Stmt := top 58
abbrev N_own_words : List Str := ["commands", "words", "address", "deed"]
abbrev P_own_words : List Str := ["commands"]
abbrev s_letters_together : Stmt := top 59
abbrev N_letters_together : List Str := ["words", "total", "word"]
abbrev P_letters_together : List Str := ["words"]
abbrev s_is_plain : Stmt := top 60
abbrev N_is_plain : List Str := ["commands", "address", "deed", "words"]
abbrev P_is_plain : List Str := ["commands"]
abbrev s_stands : Stmt := top 62
abbrev N_stands : List Str := ["word", "line", "at"]
abbrev P_stands : List Str := ["word", "line"]
abbrev s_holds_bare : Stmt := top 63
abbrev N_holds_bare : List Str := ["address", "line", "number", "last"]
abbrev P_holds_bare : List Str := ["address", "line", "number", "last"]
abbrev s_holds : Stmt := top 64
abbrev N_holds : List Str := ["address", "line", "number", "last", "truth", "turn"]
abbrev P_holds : List Str := ["address", "line", "number", "last"]
abbrev s_come_of : Stmt := top 65
abbrev N_come_of : List Str := ["commands", "line", "number", "last", "ahead", "behind", "now", "left", "address", "deed"]
abbrev P_come_of : List Str := ["commands", "line", "number", "last"]
abbrev s_Runner_init : Stmt := inClass (top 66) 0
abbrev N_Runner_init : List Str := ["self", "commands"]
abbrev P_Runner_init : List Str := ["self", "commands"]
abbrev s_Runner_come : Stmt := inClass (top 66) 1
abbrev N_Runner_come : List Str := ["self", "line", "number", "last", "key"]
abbrev P_Runner_come : List Str := ["self", "line", "number", "last"]
abbrev s_run : Stmt := top 67
abbrev N_run : List Str := ["runner", "text", "result", "at"]
abbrev P_run : List Str := ["runner", "text"]
abbrev s_run_after : Stmt := top 68
abbrev N_run_after : List Str := ["later", "earlier", "text", "between"]
abbrev P_run_after : List Str := ["later", "earlier", "text"]
abbrev s_is_used : Stmt := top 70
abbrev N_is_used : List Str := ["letter", "words", "word"]
abbrev P_is_used : List Str := ["letter", "words"]
abbrev s_free_letter : Stmt := top 71
abbrev N_free_letter : List Str := ["words", "free", "letter"]
abbrev P_free_letter : List Str := ["words"]
abbrev s_begins_one : Stmt := top 72
abbrev N_begins_one : List Str := ["part", "words", "word"]
abbrev P_begins_one : List Str := ["part", "words"]
abbrev s_longest_end : Stmt := top 73
abbrev N_longest_end : List Str := ["words", "line", "start"]
abbrev P_longest_end : List Str := ["words", "line"]
abbrev s_words_had : Stmt := top 74
abbrev N_words_had : List Str := ["words", "line", "word"]
abbrev P_words_had : List Str := ["words", "line"]
abbrev s_state_of : Stmt := top 75
abbrev N_state_of : List Str := ["words", "line"]
abbrev P_state_of : List Str := ["words", "line"]
abbrev s_longer_lines : Stmt := top 76
abbrev N_longer_lines : List Str := ["words", "lines", "known", "found", "line", "letter", "longer", "state"]
abbrev P_longer_lines : List Str := ["words", "lines", "known"]
abbrev s_first_of_states : Stmt := top 77
abbrev N_first_of_states : List Str := ["words", "known", "level", "lines", "length"]
abbrev P_first_of_states : List Str := ["words"]
abbrev s_first_lines : Stmt := top 78
abbrev N_first_lines : List Str := ["words", "firsts", "sets", "line", "had"]
abbrev P_first_lines : List Str := ["words"]
abbrev s_padded : Stmt := top 79
abbrev N_padded : List Str := ["line", "free", "longer", "length"]
abbrev P_padded : List Str := ["line", "free"]
abbrev s_kinds_of : Stmt := top 80
abbrev N_kinds_of : List Str := ["commands", "words", "free", "kinds", "line"]
abbrev P_kinds_of : List Str := ["commands"]
abbrev s_variant_of : Stmt := top 81
abbrev N_variant_of : List Str := ["kind", "own", "free"]
abbrev P_variant_of : List Str := ["kind", "own", "free"]
abbrev s_variants_of : Stmt := top 82
abbrev N_variants_of : List Str := ["commands", "kinds", "own", "free", "kind"]
abbrev P_variants_of : List Str := ["commands", "kinds"]
abbrev s_looked_at : Stmt := top 83
abbrev N_looked_at : List Str := ["commands", "most", "kinds", "kind", "texts", "variants", "variant"]
abbrev P_looked_at : List Str := ["commands", "most"]
abbrev s_line_numbers : Stmt := top 85
abbrev N_line_numbers : List Str := ["line"]
abbrev P_line_numbers : List Str := ["line"]
abbrev s_text_numbers : Stmt := top 86
abbrev N_text_numbers : List Str := ["text", "told", "line"]
abbrev P_text_numbers : List Str := ["text"]
abbrev s_places : Stmt := top 87
abbrev N_places : List Str := ["found", "number"]
abbrev P_places : List Str := []
abbrev s_first_unlike : Stmt := top 88
abbrev N_first_unlike : List Str := ["one", "two", "kinds", "number", "last", "at"]
abbrev P_first_unlike : List Str := ["one", "two", "kinds", "number", "last"]
abbrev s_alike : Stmt := top 89
abbrev N_alike : List Str := ["first", "second", "kinds", "one", "two", "number", "last", "at"]
abbrev P_alike : List Str := ["first", "second"]
abbrev s_apart_for : Stmt := top 90
abbrev N_apart_for : List Str := ["one", "two", "text"]
abbrev P_apart_for : List Str := ["one", "two", "text"]
abbrev s_undone_fails : Stmt := top 91
abbrev N_undone_fails : List Str := ["one", "two", "text"]
abbrev P_undone_fails : List Str := ["one", "two", "text"]
abbrev s_order_matters : Stmt := top 92
abbrev N_order_matters : List Str := ["one", "two", "text"]
abbrev P_order_matters : List Str := ["one", "two", "text"]
abbrev s_twice_differs : Stmt := top 93
abbrev N_twice_differs : List Str := ["one", "two", "text"]
abbrev P_twice_differs : List Str := ["one", "two", "text"]
abbrev s_stands_against : Stmt := top 94
abbrev N_stands_against : List Str := ["call", "one", "two", "text"]
abbrev P_stands_against : List Str := ["call", "one", "two", "text"]
abbrev s_look_through : Stmt := top 95
abbrev N_look_through : List Str := ["call", "first", "second", "most", "one", "two", "text"]
abbrev P_look_through : List Str := ["call", "first", "second", "most"]
abbrev s_lines_for_same : Stmt := top 96
abbrev N_lines_for_same : List Str := ["commands", "kinds", "lines", "variant"]
abbrev P_lines_for_same : List Str := ["commands"]
abbrev s_later_like : Stmt := top 97
abbrev N_later_like : List Str := ["results", "at", "later"]
abbrev P_later_like : List Str := ["results", "at"]
abbrev s_same : Stmt := top 98
abbrev N_same : List Str := ["first", "second", "lines", "runner", "results", "at", "later", "line"]
abbrev P_same : List Str := ["first", "second"]
abbrev s_looks : Stmt := top 99
abbrev N_looks : List Str := ["first", "second", "most", "many"]
abbrev P_looks : List Str := ["first", "second", "most"]
abbrev s_Desk_init : Stmt := inClass (top 101) 0
abbrev N_Desk_init : List Str := ["self"]
abbrev P_Desk_init : List Str := ["self"]
abbrev s_Desk_load : Stmt := inClass (top 101) 1
abbrev N_Desk_load : List Str := ["self", "script", "commands", "e"]
abbrev P_Desk_load : List Str := ["self", "script"]
abbrev s_Desk_load_other : Stmt := inClass (top 101) 2
abbrev N_Desk_load_other : List Str := ["self", "script", "commands", "e"]
abbrev P_Desk_load_other : List Str := ["self", "script"]
abbrev s_Desk_turn_round : Stmt := inClass (top 101) 3
abbrev N_Desk_turn_round : List Str := ["self", "kept"]
abbrev P_Desk_turn_round : List Str := ["self"]
abbrev s_Desk_look : Stmt := inClass (top 101) 4
abbrev N_Desk_look : List Str := ["self", "number", "most"]
abbrev P_Desk_look : List Str := ["self", "number", "most"]
abbrev s_Desk_answer : Stmt := inClass (top 101) 5
abbrev N_Desk_answer : List Str := ["self", "call", "number"]
abbrev P_Desk_answer : List Str := ["self", "call"]
abbrev s_call_end : Stmt := top 103
abbrev N_call_end : List Str := ["calls", "at"]
abbrev P_call_end : List Str := ["calls", "at"]
abbrev s_answers : Stmt := top 104
abbrev N_answers : List Str := ["calls", "desk", "told", "at", "end", "answer"]
abbrev P_answers : List Str := ["calls"]
structure Ad where
  cFault : Addr
  cToken : Addr
  cAddress : Addr
  cDeed : Addr
  cReader : Addr
  cRunner : Addr
  cDesk : Addr
  ow : Addr
/-- what the top has written -/
structure Txt (K : PySem.W.Frag) (mg : Str → Option Value) (ad : Ad) : Prop where
  g_IF : ∃ t, mg "IF" = some (.int 0 t)
  g_ALL : ∃ t, mg "ALL" = some (.int 1 t)
  g_LINE : ∃ t, mg "LINE" = some (.int 2 t)
  g_FROM : ∃ t, mg "FROM" = some (.int 3 t)
  g_TO : ∃ t, mg "TO" = some (.int 4 t)
  g_LAST : ∃ t, mg "LAST" = some (.int 5 t)
  g_HAS : ∃ t, mg "HAS" = some (.int 6 t)
  g_IS : ∃ t, mg "IS" = some (.int 7 t)
  g_NOT : ∃ t, mg "NOT" = some (.int 8 t)
  g_DELETE : ∃ t, mg "DELETE" = some (.int 9 t)
  g_BEFORE : ∃ t, mg "BEFORE" = some (.int 10 t)
  g_AFTER : ∃ t, mg "AFTER" = some (.int 11 t)
  g_CHANGE : ∃ t, mg "CHANGE" = some (.int 12 t)
  g_SWAP : ∃ t, mg "SWAP" = some (.int 13 t)
  g_FIRST : ∃ t, mg "FIRST" = some (.int 14 t)
  g_KEEP : ∃ t, mg "KEEP" = some (.int 15 t)
  g_BRING : ∃ t, mg "BRING" = some (.int 16 t)
  g_TRADE : ∃ t, mg "TRADE" = some (.int 17 t)
  g_SKIP : ∃ t, mg "SKIP" = some (.int 18 t)
  g_STOP : ∃ t, mg "STOP" = some (.int 19 t)
  g_NONE : ∃ t, mg "NONE" = some (.int 20 t)
  g_LETTERS : ∃ t, mg "LETTERS" = some (.int 21 t)
  g_NUMBER : ∃ t, mg "NUMBER" = some (.int 22 t)
  g_SEMICOLON : ∃ t, mg "SEMICOLON" = some (.int 23 t)
  g_END : ∃ t, mg "END" = some (.int 24 t)
  n_len : mg "len" = none
  n_range : mg "range" = none
  n_ord : mg "ord" = none
  n_tuple : mg "tuple" = none
  n_list : mg "list" = none
  n_int : mg "int" = none
  g_OWN_WORDS : mg "OWN_WORDS" = some (.ref ad.ow)
  ow : ∀ H, SqT K H ad.ow ownV
  g_Fault : mg "Fault" = some (.ref ad.cFault)
  ex : ExC K ad.cFault
  xf : XfC K ad.cFault
  nx_code : PySem.W.findIn K (.ref ad.cFault) "code" = some none
  nx_place : PySem.W.findIn K (.ref ad.cFault) "place" = some none
  em : PySem.W.exmOne K (.ref ad.cFault) (.ref ad.cFault) = some true
  d_Fault_init : ∃ f fd, PySem.W.findIn K (.ref ad.cFault) "__init__" = some (some (.ref f)) ∧ PySem.W.typeIn K (.ref f) = some (.type "function") ∧ Fun K "__init__" "Fault.__init__" s_Fault_init f fd ∧ Binds K fd P_Fault_init []
  cl_Token : Cls K ad.cToken
  na_Token_what : NoAttr K ad.cToken "what"
  na_Token_place : NoAttr K ad.cToken "place"
  na_Token_word : NoAttr K ad.cToken "word"
  na_Token_amount : NoAttr K ad.cToken "amount"
  cl_Address : Cls K ad.cAddress
  na_Address_nots : NoAttr K ad.cAddress "nots"
  na_Address_what : NoAttr K ad.cAddress "what"
  na_Address_low : NoAttr K ad.cAddress "low"
  na_Address_high : NoAttr K ad.cAddress "high"
  na_Address_word : NoAttr K ad.cAddress "word"
  cl_Deed : Cls K ad.cDeed
  na_Deed_what : NoAttr K ad.cDeed "what"
  na_Deed_word : NoAttr K ad.cDeed "word"
  na_Deed_many : NoAttr K ad.cDeed "many"
  cl_Reader : Cls K ad.cReader
  na_Reader_tokens : NoAttr K ad.cReader "tokens"
  na_Reader_read : NoAttr K ad.cReader "read"
  cl_Runner : Cls K ad.cRunner
  na_Runner_commands : NoAttr K ad.cRunner "commands"
  na_Runner_known : NoAttr K ad.cRunner "known"
  cl_Desk : Cls K ad.cDesk
  na_Desk_held : NoAttr K ad.cDesk "held"
  na_Desk_first : NoAttr K ad.cDesk "first"
  na_Desk_second : NoAttr K ad.cDesk "second"
  d_spells : ∃ f fd, mg "spells" = some (.ref f) ∧ Fun K "spells" "spells" s_spells f fd ∧ Binds K fd P_spells []
  d_sort_of_word : ∃ f fd, mg "sort_of_word" = some (.ref f) ∧ Fun K "sort_of_word" "sort_of_word" s_sort_of_word f fd ∧ Binds K fd P_sort_of_word []
  d_Token_init : ∃ f fd, Mk K ad.cToken f ∧ mg "Token" = some (.ref ad.cToken) ∧ Fun K "__init__" "Token.__init__" s_Token_init f fd ∧ Binds K fd P_Token_init []
  d_is_blank : ∃ f fd, mg "is_blank" = some (.ref f) ∧ Fun K "is_blank" "is_blank" s_is_blank f fd ∧ Binds K fd P_is_blank []
  d_is_letter : ∃ f fd, mg "is_letter" = some (.ref f) ∧ Fun K "is_letter" "is_letter" s_is_letter f fd ∧ Binds K fd P_is_letter []
  d_is_digit : ∃ f fd, mg "is_digit" = some (.ref f) ∧ Fun K "is_digit" "is_digit" s_is_digit f fd ∧ Binds K fd P_is_digit []
  d_remark_end : ∃ f fd, mg "remark_end" = some (.ref f) ∧ Fun K "remark_end" "remark_end" s_remark_end f fd ∧ Binds K fd P_remark_end []
  d_past_blanks : ∃ f fd, mg "past_blanks" = some (.ref f) ∧ Fun K "past_blanks" "past_blanks" s_past_blanks f fd ∧ Binds K fd P_past_blanks []
  d_run_end : ∃ f fd, mg "run_end" = some (.ref f) ∧ Fun K "run_end" "run_end" s_run_end f fd ∧ Binds K fd P_run_end []
  d_number_of : ∃ f fd, mg "number_of" = some (.ref f) ∧ Fun K "number_of" "number_of" s_number_of f fd ∧ Binds K fd P_number_of []
  d_word_token : ∃ f fd, mg "word_token" = some (.ref f) ∧ Fun K "word_token" "word_token" s_word_token f fd ∧ Binds K fd P_word_token []
  d_number_token : ∃ f fd, mg "number_token" = some (.ref f) ∧ Fun K "number_token" "number_token" s_number_token f fd ∧ Binds K fd P_number_token []
  d_token_at : ∃ f fd, mg "token_at" = some (.ref f) ∧ Fun K "token_at" "token_at" s_token_at f fd ∧ Binds K fd P_token_at []
  d_read_tokens : ∃ f fd, mg "read_tokens" = some (.ref f) ∧ Fun K "read_tokens" "read_tokens" s_read_tokens f fd ∧ Binds K fd P_read_tokens []
  d_Address_init : ∃ f fd, Mk K ad.cAddress f ∧ mg "Address" = some (.ref ad.cAddress) ∧ Fun K "__init__" "Address.__init__" s_Address_init f fd ∧ Binds K fd P_Address_init []
  d_Deed_init : ∃ f fd, Mk K ad.cDeed f ∧ mg "Deed" = some (.ref ad.cDeed) ∧ Fun K "__init__" "Deed.__init__" s_Deed_init f fd ∧ Binds K fd P_Deed_init []
  d_Reader_init : ∃ f fd, Mk K ad.cReader f ∧ mg "Reader" = some (.ref ad.cReader) ∧ Fun K "__init__" "Reader.__init__" s_Reader_init f fd ∧ Binds K fd P_Reader_init []
  d_Reader_now : ∃ f fd, Meth K ad.cReader "now" f ∧ Fun K "now" "Reader.now" s_Reader_now f fd ∧ Binds K fd P_Reader_now []
  d_Reader_take : ∃ f fd, Meth K ad.cReader "take" f ∧ Fun K "take" "Reader.take" s_Reader_take f fd ∧ Binds K fd P_Reader_take []
  d_take_sort : ∃ f fd, mg "take_sort" = some (.ref f) ∧ Fun K "take_sort" "take_sort" s_take_sort f fd ∧ Binds K fd P_take_sort []
  d_take_letters : ∃ f fd, mg "take_letters" = some (.ref f) ∧ Fun K "take_letters" "take_letters" s_take_letters f fd ∧ Binds K fd P_take_letters []
  d_take_letters_or_none : ∃ f fd, mg "take_letters_or_none" = some (.ref f) ∧ Fun K "take_letters_or_none" "take_letters_or_none" s_take_letters_or_none f fd ∧ Binds K fd P_take_letters_or_none []
  d_take_number : ∃ f fd, mg "take_number" = some (.ref f) ∧ Fun K "take_number" "take_number" s_take_number f fd ∧ Binds K fd P_take_number []
  d_read_nots : ∃ f fd, mg "read_nots" = some (.ref f) ∧ Fun K "read_nots" "read_nots" s_read_nots f fd ∧ Binds K fd P_read_nots []
  d_read_address : ∃ f fd, mg "read_address" = some (.ref f) ∧ Fun K "read_address" "read_address" s_read_address f fd ∧ Binds K fd P_read_address []
  d_read_deed : ∃ f fd, mg "read_deed" = some (.ref f) ∧ Fun K "read_deed" "read_deed" s_read_deed f fd ∧ Binds K fd P_read_deed []
  d_read_command : ∃ f fd, mg "read_command" = some (.ref f) ∧ Fun K "read_command" "read_command" s_read_command f fd ∧ Binds K fd P_read_command []
  d_read_script : ∃ f fd, mg "read_script" = some (.ref f) ∧ Fun K "read_script" "read_script" s_read_script f fd ∧ Binds K fd P_read_script []
  d_looked_for : ∃ f fd, mg "looked_for" = some (.ref f) ∧ Fun K "looked_for" "looked_for" s_looked_for f fd ∧ Binds K fd P_looked_for []
  d_own_words : ∃ f fd, mg "own_words" = some (.ref f) ∧ Fun K "own_words" "own_words" s_own_words f fd ∧ Binds K fd P_own_words []
  d_letters_together : ∃ f fd, mg "letters_together" = some (.ref f) ∧ Fun K "letters_together" "letters_together" s_letters_together f fd ∧ Binds K fd P_letters_together []
  d_is_plain : ∃ f fd, mg "is_plain" = some (.ref f) ∧ Fun K "is_plain" "is_plain" s_is_plain f fd ∧ Binds K fd P_is_plain []
  d_stands : ∃ f fd, mg "stands" = some (.ref f) ∧ Fun K "stands" "stands" s_stands f fd ∧ Binds K fd P_stands []
  d_holds_bare : ∃ f fd, mg "holds_bare" = some (.ref f) ∧ Fun K "holds_bare" "holds_bare" s_holds_bare f fd ∧ Binds K fd P_holds_bare []
  d_holds : ∃ f fd, mg "holds" = some (.ref f) ∧ Fun K "holds" "holds" s_holds f fd ∧ Binds K fd P_holds []
  d_come_of : ∃ f fd, mg "come_of" = some (.ref f) ∧ Fun K "come_of" "come_of" s_come_of f fd ∧ Binds K fd P_come_of []
  d_Runner_init : ∃ f fd, Mk K ad.cRunner f ∧ mg "Runner" = some (.ref ad.cRunner) ∧ Fun K "__init__" "Runner.__init__" s_Runner_init f fd ∧ Binds K fd P_Runner_init []
  d_Runner_come : ∃ f fd, Meth K ad.cRunner "come" f ∧ Fun K "come" "Runner.come" s_Runner_come f fd ∧ Binds K fd P_Runner_come []
  d_run : ∃ f fd, mg "run" = some (.ref f) ∧ Fun K "run" "run" s_run f fd ∧ Binds K fd P_run []
  d_run_after : ∃ f fd, mg "run_after" = some (.ref f) ∧ Fun K "run_after" "run_after" s_run_after f fd ∧ Binds K fd P_run_after []
  d_is_used : ∃ f fd, mg "is_used" = some (.ref f) ∧ Fun K "is_used" "is_used" s_is_used f fd ∧ Binds K fd P_is_used []
  d_free_letter : ∃ f fd, mg "free_letter" = some (.ref f) ∧ Fun K "free_letter" "free_letter" s_free_letter f fd ∧ Binds K fd P_free_letter []
  d_begins_one : ∃ f fd, mg "begins_one" = some (.ref f) ∧ Fun K "begins_one" "begins_one" s_begins_one f fd ∧ Binds K fd P_begins_one []
  d_longest_end : ∃ f fd, mg "longest_end" = some (.ref f) ∧ Fun K "longest_end" "longest_end" s_longest_end f fd ∧ Binds K fd P_longest_end []
  d_words_had : ∃ f fd, mg "words_had" = some (.ref f) ∧ Fun K "words_had" "words_had" s_words_had f fd ∧ Binds K fd P_words_had []
  d_state_of : ∃ f fd, mg "state_of" = some (.ref f) ∧ Fun K "state_of" "state_of" s_state_of f fd ∧ Binds K fd P_state_of []
  d_longer_lines : ∃ f fd, mg "longer_lines" = some (.ref f) ∧ Fun K "longer_lines" "longer_lines" s_longer_lines f fd ∧ Binds K fd P_longer_lines []
  d_first_of_states : ∃ f fd, mg "first_of_states" = some (.ref f) ∧ Fun K "first_of_states" "first_of_states" s_first_of_states f fd ∧ Binds K fd P_first_of_states []
  d_first_lines : ∃ f fd, mg "first_lines" = some (.ref f) ∧ Fun K "first_lines" "first_lines" s_first_lines f fd ∧ Binds K fd P_first_lines []
  d_padded : ∃ f fd, mg "padded" = some (.ref f) ∧ Fun K "padded" "padded" s_padded f fd ∧ Binds K fd P_padded []
  d_kinds_of : ∃ f fd, mg "kinds_of" = some (.ref f) ∧ Fun K "kinds_of" "kinds_of" s_kinds_of f fd ∧ Binds K fd P_kinds_of []
  d_variant_of : ∃ f fd, mg "variant_of" = some (.ref f) ∧ Fun K "variant_of" "variant_of" s_variant_of f fd ∧ Binds K fd P_variant_of []
  d_variants_of : ∃ f fd, mg "variants_of" = some (.ref f) ∧ Fun K "variants_of" "variants_of" s_variants_of f fd ∧ Binds K fd P_variants_of []
  d_looked_at : ∃ f fd, mg "looked_at" = some (.ref f) ∧ Fun K "looked_at" "looked_at" s_looked_at f fd ∧ Binds K fd P_looked_at []
  d_line_numbers : ∃ f fd, mg "line_numbers" = some (.ref f) ∧ Fun K "line_numbers" "line_numbers" s_line_numbers f fd ∧ Binds K fd P_line_numbers []
  d_text_numbers : ∃ f fd, mg "text_numbers" = some (.ref f) ∧ Fun K "text_numbers" "text_numbers" s_text_numbers f fd ∧ Binds K fd P_text_numbers []
  d_places : ∃ f fd, mg "places" = some (.ref f) ∧ Fun K "places" "places" s_places f fd ∧ Binds K fd P_places []
  d_first_unlike : ∃ f fd, mg "first_unlike" = some (.ref f) ∧ Fun K "first_unlike" "first_unlike" s_first_unlike f fd ∧ Binds K fd P_first_unlike []
  d_alike : ∃ f fd, mg "alike" = some (.ref f) ∧ Fun K "alike" "alike" s_alike f fd ∧ Binds K fd P_alike []
  d_apart_for : ∃ f fd, mg "apart_for" = some (.ref f) ∧ Fun K "apart_for" "apart_for" s_apart_for f fd ∧ Binds K fd P_apart_for []
  d_undone_fails : ∃ f fd, mg "undone_fails" = some (.ref f) ∧ Fun K "undone_fails" "undone_fails" s_undone_fails f fd ∧ Binds K fd P_undone_fails []
  d_order_matters : ∃ f fd, mg "order_matters" = some (.ref f) ∧ Fun K "order_matters" "order_matters" s_order_matters f fd ∧ Binds K fd P_order_matters []
  d_twice_differs : ∃ f fd, mg "twice_differs" = some (.ref f) ∧ Fun K "twice_differs" "twice_differs" s_twice_differs f fd ∧ Binds K fd P_twice_differs []
  d_stands_against : ∃ f fd, mg "stands_against" = some (.ref f) ∧ Fun K "stands_against" "stands_against" s_stands_against f fd ∧ Binds K fd P_stands_against []
  d_look_through : ∃ f fd, mg "look_through" = some (.ref f) ∧ Fun K "look_through" "look_through" s_look_through f fd ∧ Binds K fd P_look_through []
  d_lines_for_same : ∃ f fd, mg "lines_for_same" = some (.ref f) ∧ Fun K "lines_for_same" "lines_for_same" s_lines_for_same f fd ∧ Binds K fd P_lines_for_same []
  d_later_like : ∃ f fd, mg "later_like" = some (.ref f) ∧ Fun K "later_like" "later_like" s_later_like f fd ∧ Binds K fd P_later_like []
  d_same : ∃ f fd, mg "same" = some (.ref f) ∧ Fun K "same" "same" s_same f fd ∧ Binds K fd P_same []
  d_looks : ∃ f fd, mg "looks" = some (.ref f) ∧ Fun K "looks" "looks" s_looks f fd ∧ Binds K fd P_looks []
  d_Desk_init : ∃ f fd, Mk K ad.cDesk f ∧ mg "Desk" = some (.ref ad.cDesk) ∧ Fun K "__init__" "Desk.__init__" s_Desk_init f fd ∧ Binds K fd P_Desk_init []
  d_Desk_load : ∃ f fd, Meth K ad.cDesk "load" f ∧ Fun K "load" "Desk.load" s_Desk_load f fd ∧ Binds K fd P_Desk_load []
  d_Desk_load_other : ∃ f fd, Meth K ad.cDesk "load_other" f ∧ Fun K "load_other" "Desk.load_other" s_Desk_load_other f fd ∧ Binds K fd P_Desk_load_other []
  d_Desk_turn_round : ∃ f fd, Meth K ad.cDesk "turn_round" f ∧ Fun K "turn_round" "Desk.turn_round" s_Desk_turn_round f fd ∧ Binds K fd P_Desk_turn_round []
  d_Desk_look : ∃ f fd, Meth K ad.cDesk "look" f ∧ Fun K "look" "Desk.look" s_Desk_look f fd ∧ Binds K fd P_Desk_look []
  d_Desk_answer : ∃ f fd, Meth K ad.cDesk "answer" f ∧ Fun K "answer" "Desk.answer" s_Desk_answer f fd ∧ Binds K fd P_Desk_answer []
  d_call_end : ∃ f fd, mg "call_end" = some (.ref f) ∧ Fun K "call_end" "call_end" s_call_end f fd ∧ Binds K fd P_call_end []
  d_answers : ∃ f fd, mg "answers" = some (.ref f) ∧ Fun K "answers" "answers" s_answers f fd ∧ Binds K fd P_answers []

/-! ### the calls' rules -/
structure OkD (P : Program) (w : World) (K : PySem.W.Frag) (mg : Str → Option Value) (base : Heap) (CX : CXT) (k : Nat) (x : Str) (ps : List Str) (sp : Sp) : Prop where
  ex : ∃ f fd, mg x = some (.ref f) ∧ PySem.W.keepIn K (.ref f) = true ∧ Binds K fd ps [] ∧ FnOk P w K mg base CX k f fd ps sp
structure OkM (P : Program) (w : World) (K : PySem.W.Frag) (mg : Str → Option Value) (base : Heap) (CX : CXT) (k : Nat) (C : PySem.Addr) (m : Str) (ps : List Str) (sp : Sp) : Prop where
  ex : ∃ f fd, Meth K C m f ∧ Binds K fd ps [] ∧ FnOk P w K mg base CX k f fd ps sp
structure OkI (P : Program) (w : World) (K : PySem.W.Frag) (mg : Str → Option Value) (base : Heap) (CX : CXT) (k : Nat) (C : PySem.Addr) (x : Str) (ps : List Str) (sp : Sp) : Prop where
  ex : ∃ f fd, Mk K C f ∧ mg x = some (.ref C) ∧ Binds K fd ps [] ∧ FnOk P w K mg base CX k f fd ps sp
structure OkE (P : Program) (w : World) (K : PySem.W.Frag) (mg : Str → Option Value) (base : Heap) (CX : CXT) (k : Nat) (C : PySem.Addr) (ps : List Str) (sp : Sp) : Prop where
  ex : ∃ f fd, PySem.W.findIn K (.ref C) "__init__" = some (some (.ref f)) ∧ PySem.W.typeIn K (.ref f) = some (.type "function") ∧ Binds K fd ps [] ∧ FnOk P w K mg base CX k f fd ps sp
section
variable {X : Cx} {CX : CXT} {k : Nat} {C : PySem.Addr} {ps : List Str} {sp : Sp} {E : XK} {x m : Str} {p pos apos : Pos} {e o : Expr} {es : List Expr} {ta : TE} {t : TA}
theorem pe_callD (G : OkD X.prog X.w X.K X.mg X.base CX k x ps sp) (hr : Room k X.A) (hx : Passes CX X E) (ha : PA X (e :: es) t) (hg : Gl X x := by rfl) (hdb : (x == ("__debug__" : Str)) = false := by decide)
    (he : starEach (e :: es) X.env = (false, eval e X.env) :: starEach es X.env := by rfl) (hpl : (backTo pos (starEach es X.env)).any (·.1) = false := by rfl) : PE X (.Call (.Name x p) (e :: es) [] pos) (tCall sp [] E t) := by
  obtain ⟨f, fd, hm, hk, hb, F⟩ := G.ex
  exact pe_call F hr hg hm hk hb .nil hx ha hdb he hpl
theorem pe_callD0 (G : OkD X.prog X.w X.K X.mg X.base CX k x ps sp) (hr : Room k X.A) (hx : Passes CX X E) (hg : Gl X x := by rfl) (hdb : (x == ("__debug__" : Str)) = false := by decide) : PE X (.Call (.Name x p) [] [] pos) (tCall sp [] E tNil) := by
  obtain ⟨f, fd, hm, hk, hb, F⟩ := G.ex
  exact pe_call0 F hr hg hm hk hb .nil hx hdb
theorem pe_callDS {E : L2.St → XK} (G : OkD X.prog X.w X.K X.mg X.base CX k x ps sp) (hr : Room k X.A) (hx : ∀ σ, PassesAt CX X σ (E σ)) (ha : PA X (e :: es) t) (hg : Gl X x := by rfl) (hdb : (x == ("__debug__" : Str)) = false := by decide)
    (he : starEach (e :: es) X.env = (false, eval e X.env) :: starEach es X.env := by rfl) (hpl : (backTo pos (starEach es X.env)).any (·.1) = false := by rfl) : PE X (.Call (.Name x p) (e :: es) [] pos) (tCallSD sp [] E t) := by
  obtain ⟨f, fd, hm, hk, hb, F⟩ := G.ex
  exact pe_callSD F hr hg hm hk hb .nil hx ha hdb he hpl
theorem pe_methD {pl : Sem Bool} (he : PE X o ta) (c : Cls X.K C) (G : OkM X.prog X.w X.K X.mg X.base CX k C m ps sp) (hr : Room k X.A) (hx : Passes CX X E) (ha : PA X (e :: es) t)
    (hst : starEach (e :: es) X.env = (false, eval e X.env) :: starEach es X.env := by rfl) (hpl : (backTo pos (starEach es X.env)).any (·.1) = false := by rfl)
    (ht : eval (.Call (.Attribute o m apos) (e :: es) [] pos) X.env = (do
      let ov ← eval o X.env
      standAt apos.atName
      let (f, first) ← holding [ov] (getMethod ov m pl)
      callWith pos f first (backTo pos (starEach (e :: es) X.env)) (backToKw pos (keywordEach [] X.env))) := by rfl) :
    PE X (.Call (.Attribute o m apos) (e :: es) [] pos) (tMeth C m sp [] E ta t) := by
  obtain ⟨f, fd, hm, hb, F⟩ := G.ex
  exact pe_meth he c hm F hr hb .nil hx ha hst hpl ht
theorem pe_methD0 {pl : Sem Bool} (he : PE X o ta) (c : Cls X.K C) (G : OkM X.prog X.w X.K X.mg X.base CX k C m ps sp) (hr : Room k X.A) (hx : Passes CX X E)
    (ht : eval (.Call (.Attribute o m apos) [] [] pos) X.env = (do
      let ov ← eval o X.env
      standAt apos.atName
      let (f, first) ← holding [ov] (getMethod ov m pl)
      callWith pos f first (backTo pos (starEach [] X.env)) (backToKw pos (keywordEach [] X.env))) := by rfl) :
    PE X (.Call (.Attribute o m apos) [] [] pos) (tMeth C m sp [] E ta tNil) := by
  obtain ⟨f, fd, hm, hb, F⟩ := G.ex
  exact pe_meth0 he c hm F hr hb .nil hx ht
theorem pe_makeD (G : OkI X.prog X.w X.K X.mg X.base CX k C x ps sp) (hr : Room (k + 1) X.A) (hx : Passes CX X E) (ha : PA X (e :: es) t) (hg : Gl X x := by rfl) (hdb : (x == ("__debug__" : Str)) = false := by decide)
    (he : starEach (e :: es) X.env = (false, eval e X.env) :: starEach es X.env := by rfl) (hpl : (backTo pos (starEach es X.env)).any (·.1) = false := by rfl) : PE X (.Call (.Name x p) (e :: es) [] pos) (tMake C sp [] E t) := by
  obtain ⟨f, fd, M, hm, hb, F⟩ := G.ex
  exact pe_make M F hr hg hm hb .nil hx ha hdb he hpl
theorem pe_makeD0 (G : OkI X.prog X.w X.K X.mg X.base CX k C x ps sp) (hr : Room (k + 1) X.A) (hx : Passes CX X E) (hg : Gl X x := by rfl) (hdb : (x == ("__debug__" : Str)) = false := by decide) : PE X (.Call (.Name x p) [] [] pos) (tMake C sp [] E tNil) := by
  obtain ⟨f, fd, M, hm, hb, F⟩ := G.ex
  exact pe_make0 M F hr hg hm hb .nil hx hdb
theorem g_int (n : Int) (h : ∃ t, X.mg x = some (.int n t)) (hg : Gl X x := by rfl) (hd : (x == ("__debug__" : Str)) = false := by decide) : PE X (.Name x pos) (tC (.int n)) := by
  obtain ⟨t, h⟩ := h
  exact pe_glob (v := .int n) hg h ⟨t, rfl⟩ hd
theorem hu65 {k : Nat} {A : Around} (hr : Room k A) : A.units + 65 < cLine := by have := hr.un; omega
/-- what a callee may raise is raised on -/
theorem passX {E : XK} (tk : Takes X (fun cls d _ H => E cls d H)) : Passes (L2.CX X.prog X.w) X E := passes_call tk fun _ _ _ _ z => z
end

/-! ### what lies in the heap -/
/-- d alone may change -/
theorem But.of {d : PySem.Addr} {H H' : Hp} (s : Same H H') : But d H H' := fun c o _ e => s c o e
theorem But.trans {d : PySem.Addr} {H H1 H2 : Hp} (a : But d H H1) (b : But d H1 H2) : But d H H2 := fun c o hc e => b c o hc (a c o hc e)
theorem Same.new {H : Hp} {p : PySem.Addr} {o : HO} (h : H p = none) : Same H (upd H p o) := fun a u e => by
  rw [upd_ne (ne_of_none e h)]
  exact e
/-- an object that H does not know may change -/
theorem Same.mut {H H' : Hp} {p : PySem.Addr} {o : HO} (s : Same H H') (h : H p = none) : Same H (upd H' p o) := fun a u e => by
  rw [upd_ne (ne_of_none e h)]
  exact s a u e
theorem Same.but {d : PySem.Addr} {H H1 H2 : Hp} (s : Same H H1) (b : But d H1 H2) (h : H d = none) : Same H H2 := fun a u e => b a u (ne_of_none e h) (s a u e)
theorem But.same {d : PySem.Addr} {H H1 H2 : Hp} (b : But d H H1) (s : Same H1 H2) : But d H H2 := fun a u hc e => s a u (b a u hc e)
theorem But.upd {d : PySem.Addr} {H : Hp} {o : HO} : But d H (upd H d o) := fun a u hc e => by
  rw [upd_ne hc]
  exact e
def vb (c : UInt8) : V := .int (c.toNat : Int)
def vl (x : Bytes) : List V := x.map vb
theorem vl_length (x : Bytes) : (vl x).length = x.length := List.length_map ..
theorem vl_at {x : Bytes} {i : Nat} {c : UInt8} (h : x[i]? = some c) : (vl x)[i]? = some (vb c) := by
  unfold vl
  rw [List.getElem?_map, h]
  rfl
theorem of_vl {x : Bytes} {i : Nat} {v : V} (h : (vl x)[i]? = some v) : ∃ c, x[i]? = some c ∧ v = vb c := by
  unfold vl at h
  rw [List.getElem?_map] at h
  cases e : x[i]? with
  | none => rw [e] at h; cases h
  | some c => rw [e] at h; exact ⟨c, rfl, (Option.some.inj h).symm⟩
theorem vb_inj {c d : UInt8} (h : vb c = vb d) : c = d := by
  have : (c.toNat : Int) = (d.toNat : Int) := V.int.inj h
  exact UInt8.toNat_inj.mp (by omega)
theorem vl_inj : ∀ {x y : Bytes}, vl x = vl y → x = y
  | [], [], _ => rfl
  | [], _ :: _, h => by cases h
  | _ :: _, [], h => by cases h
  | a :: x, b :: y, h => by
    have h' := List.cons.inj (show vb a :: vl x = vb b :: vl y from h)
    rw [vb_inj h'.1, vl_inj h'.2]
def LinesR (H : Hp) (as : List PySem.Addr) (ls : List Bytes) : Prop := Paired (fun a x => H a = some (.tup (vl x))) as ls
def LinesL (H : Hp) (p : PySem.Addr) (ls : List Bytes) : Prop := ∃ as, H p = some (.lst (as.map V.ref)) ∧ LinesR H as ls
def LinesT (H : Hp) (p : PySem.Addr) (ls : List Bytes) : Prop := ∃ as, H p = some (.tup (as.map V.ref)) ∧ LinesR H as ls
theorem LinesR.imp {H H' : Hp} (s : ∀ a x, H a = some (.tup (vl x)) → H' a = some (.tup (vl x))) {as : List PySem.Addr} {ls : List Bytes} (h : LinesR H as ls) : LinesR H' as ls := Paired.mapP h fun a x e => s a x e
theorem LinesR.same {H H' : Hp} (s : Same H H') {as : List PySem.Addr} {ls : List Bytes} (h : LinesR H as ls) : LinesR H' as ls := h.imp fun a x e => s _ _ e
theorem LinesL.same {H H' : Hp} {p : PySem.Addr} {ls : List Bytes} (s : Same H H') (h : LinesL H p ls) : LinesL H' p ls := let ⟨as, e, r⟩ := h; ⟨as, s _ _ e, r.same s⟩
theorem LinesT.same {H H' : Hp} {p : PySem.Addr} {ls : List Bytes} (s : Same H H') (h : LinesT H p ls) : LinesT H' p ls := let ⟨as, e, r⟩ := h; ⟨as, s _ _ e, r.same s⟩
theorem LinesR.length {H : Hp} {as : List PySem.Addr} {ls : List Bytes} (h : LinesR H as ls) : as.length = ls.length := Paired.length h
theorem paired_get {α β : Type} {F : α → β → Prop} : ∀ {l : List α} {m : List β} {i : Nat} {a : α}, Paired F l m → l[i]? = some a → ∃ b, m[i]? = some b ∧ F a b
  | _, _, _, _, .nil, h => by simp at h
  | _, _, 0, _, .cons r _, h => by
    simp at h
    subst h
    exact ⟨_, rfl, r⟩
  | _, _, i + 1, a, .cons _ t, h => by
    obtain ⟨b, h1, h2⟩ := paired_get (i := i) t (by simpa using h)
    exact ⟨b, by simpa using h1, h2⟩
theorem paired_get' {α β : Type} {F : α → β → Prop} : ∀ {l : List α} {m : List β} {i : Nat} {b : β}, Paired F l m → m[i]? = some b → ∃ a, l[i]? = some a ∧ F a b
  | _, _, _, _, .nil, h => by simp at h
  | _, _, 0, _, .cons r _, h => by
    simp at h
    subst h
    exact ⟨_, rfl, r⟩
  | _, _, i + 1, a, .cons _ t, h => by
    obtain ⟨b, h1, h2⟩ := paired_get' (i := i) t (by simpa using h)
    exact ⟨b, by simpa using h1, h2⟩
theorem map_ref_at {as : List PySem.Addr} {i : Nat} {v : V} (h : (as.map V.ref)[i]? = some v) : ∃ a, as[i]? = some a ∧ v = .ref a := by
  rw [List.getElem?_map] at h
  cases e : as[i]? with
  | none => rw [e] at h; cases h
  | some a => rw [e] at h; exact ⟨a, rfl, (Option.some.inj h).symm⟩
theorem LinesR.snoc {H : Hp} {as : List PySem.Addr} {ls : List Bytes} {a : PySem.Addr} {x : Bytes} (h : LinesR H as ls) (ha : H a = some (.tup (vl x))) : LinesR H (as ++ [a]) (ls ++ [x]) := paired_app (F := fun a x => H a = some (.tup (vl x))) (.cons ha .nil) h
theorem LinesR.append {H : Hp} {as bs : List PySem.Addr} {ls ms : List Bytes} (h : LinesR H as ls) (k : LinesR H bs ms) : LinesR H (as ++ bs) (ls ++ ms) := paired_app (F := fun a x => H a = some (.tup (vl x))) k h

/-! ### data for ==, in -/
def dl (x : Bytes) : PyData := .tuple (x.map fun c => .int (c.toNat : Int))
end Lw

/-! Lines compared; what stands at tokens, commands, readers. -/
namespace Lw
open PySem PySem.Spec PyProof.Rows L2
open VasedBase (Bytes PTok Toks)
open Vaseda (Deed Cmd Script Line)

/-! ### lines as data -/
theorem dlAll_eqv : ∀ x y : Bytes, PyData.eqvAll (x.map fun c => .int (c.toNat : Int)) (y.map fun c => .int (c.toNat : Int)) = decide (x = y)
  | [], [] => by simp [PyData.eqvAll]
  | [], _ :: _ => by simp [PyData.eqvAll]
  | _ :: _, [] => by simp [PyData.eqvAll]
  | a :: x, b :: y => by
    rw [List.map_cons, List.map_cons, PyData.eqvAll, dlAll_eqv x y]
    have e : PyData.eqv (.int (a.toNat : Int)) (.int (b.toNat : Int)) = decide (a = b) := by
      rw [PyData.eqv]
      by_cases h : a = b
      · subst h
        simp
      · have h' : ¬ a.toNat = b.toNat := fun z => h (UInt8.toNat_inj.mp z)
        rw [decide_eq_false h]
        exact beq_eq_false_iff_ne.mpr fun z => h' (by omega)
    rw [e, Bool.eq_iff_iff]
    simp
theorem dl_eqv (x y : Bytes) : PyData.eqv (dl x) (dl y) = decide (x = y) := by
  unfold dl
  rw [PyData.eqv]
  exact dlAll_eqv x y
theorem dls_eqv : ∀ l m : List Bytes, PyData.eqvAll (l.map dl) (m.map dl) = decide (l = m)
  | [], [] => by simp [PyData.eqvAll]
  | [], _ :: _ => by simp [PyData.eqvAll]
  | _ :: _, [] => by simp [PyData.eqvAll]
  | a :: x, b :: y => by
    rw [List.map_cons, List.map_cons, PyData.eqvAll, dls_eqv x y, dl_eqv, Bool.eq_iff_iff]
    simp
theorem dlAll_lay : ∀ x : Bytes, PyData.canLayAll0 (x.map fun c => .int (c.toNat : Int)) = true
  | [] => by simp [PyData.canLayAll0]
  | c :: x => by
    rw [List.map_cons, PyData.canLayAll0, dlAll_lay x]
    simp [PyData.canLay0]
theorem dlAll_depth : ∀ x : Bytes, PyData.depthAll (x.map fun c => .int (c.toNat : Int)) = 0
  | [] => by simp [PyData.depthAll]
  | c :: x => by
    rw [List.map_cons, PyData.depthAll, dlAll_depth x]
    simp [PyData.depth]
theorem dl_lay (x : Bytes) : PyData.canLay0 (dl x) = true := by
  unfold dl
  rw [PyData.canLay0]
  exact dlAll_lay x
theorem dl_depth (x : Bytes) : PyData.depth (dl x) = 1 := by
  unfold dl
  rw [PyData.depth, dlAll_depth]
theorem dls_lay : ∀ l : List Bytes, PyData.canLayAll0 (l.map dl) = true
  | [] => by simp [PyData.canLayAll0]
  | x :: l => by
    rw [List.map_cons, PyData.canLayAll0, dls_lay l, dl_lay]
    rfl
theorem dls_depth : ∀ l : List Bytes, PyData.depthAll (l.map dl) ≤ 1
  | [] => by simp [PyData.depthAll]
  | x :: l => by
    rw [List.map_cons, PyData.depthAll, dl_depth]
    have := dls_depth l
    omega
theorem sh_of {d : PyData} (h1 : d.canLay0 = true) (h2 : d.depth ≤ 64) : SeqAt.shaped d = true := by
  unfold SeqAt.shaped
  rw [h1, decide_eq_true h2]
  rfl
theorem dl_sh (x : Bytes) : SeqAt.shaped (dl x) = true := sh_of (dl_lay x) (by rw [dl_depth]; decide)
theorem dls_shL (l : List Bytes) : SeqAt.shaped (.list (l.map dl)) = true := sh_of (by rw [PyData.canLay0]; exact dls_lay l) (by rw [PyData.depth]; have := dls_depth l; omega)
theorem dls_shT (l : List Bytes) : SeqAt.shaped (.tuple (l.map dl)) = true := sh_of (by rw [PyData.canLay0]; exact dls_lay l) (by rw [PyData.depth]; have := dls_depth l; omega)
/-- an option of lines -/
def dopt : Option (List Bytes) → PyData
  | none => .none
  | some l => .list (l.map dl)
theorem dopt_eqv : ∀ a b : Option (List Bytes), PyData.eqv (dopt a) (dopt b) = decide (a = b)
  | none, none => by simp [dopt, PyData.eqv]
  | none, some _ => by simp [dopt, PyData.eqv]
  | some _, none => by simp [dopt, PyData.eqv]
  | some l, some m => by
    show PyData.eqv (.list (l.map dl)) (.list (m.map dl)) = _
    rw [PyData.eqv, dls_eqv, Bool.eq_iff_iff]
    simp
theorem dopt_sh : ∀ a : Option (List Bytes), SeqAt.shaped (dopt a) = true
  | none => rfl
  | some l => dls_shL l
section
variable {K : PySem.W.Frag} {H : Hp}
theorem dp_ints (x : Bytes) : DpAll K H (vl x) (x.map fun c => .int (c.toNat : Int)) := by
  induction x with
  | nil => exact .nil
  | cons c x ih => exact .cons (.int _) ih
theorem dp_line {a : PySem.Addr} {x : Bytes} (h : H a = some (.tup (vl x))) : Dp K H (.ref a) (dl x) := .tup (.inl (.inl h)) (dp_ints x)
theorem dp_lines {as : List PySem.Addr} {ls : List Bytes} (r : LinesR H as ls) : DpAll K H (as.map V.ref) (ls.map dl) := by
  induction r with
  | nil => exact .nil
  | cons h _ ih => exact .cons (dp_line h) ih
theorem dp_linesL {p : PySem.Addr} {ls : List Bytes} (h : LinesL H p ls) : Dp K H (.ref p) (.list (ls.map dl)) := let ⟨_, e, r⟩ := h; .lst (.inl (.inl e)) (dp_lines r)
theorem dp_linesT {p : PySem.Addr} {ls : List Bytes} (h : LinesT H p ls) : Dp K H (.ref p) (.tuple (ls.map dl)) := let ⟨_, e, r⟩ := h; .tup (.inl (.inl e)) (dp_lines r)
/-- an option of lines as a value -/
def OptAt (H : Hp) : V → Option (List Bytes) → Prop
  | .ref p, some l => LinesL H p l
  | .non, none => True
  | _, _ => False
theorem OptAt.same {H H' : Hp} {v : V} {o : Option (List Bytes)} (s : Same H H') (h : OptAt H v o) : OptAt H' v o := by
  cases o with
  | none => cases v <;> first | exact h | exact trivial
  | some l =>
    cases v <;> first | exact h | exact LinesL.same s h
theorem dp_opt {v : V} {o : Option (List Bytes)} (h : OptAt H v o) : Dp K H v (dopt o) := by
  cases o with
  | none =>
    cases v <;> first | exact h.elim | exact .non
  | some l =>
    cases v <;> first | exact h.elim | exact dp_linesL h
end
theorem any_eqv (l : List Bytes) (x : Bytes) : ((l.map dl).any fun z => PyData.eqv z (dl x)) = l.contains x := by
  rw [Bool.eq_iff_iff, List.any_eq_true, List.contains_iff_mem]
  constructor
  · rintro ⟨z, hz, e⟩
    obtain ⟨y, hy, rfl⟩ := List.mem_map.mp hz
    rw [dl_eqv, decide_eq_true_iff] at e
    subst e
    exact hy
  · intro h
    exact ⟨dl x, List.mem_map.mpr ⟨x, h, rfl⟩, by rw [dl_eqv]; simp⟩

/-! ### fields -/
theorem lk1 {k : Str} {v : V} {r : List (Str × V)} : List.lookup k ((k, v) :: r) = some v := by
  have e : (k == k) = true := beq_self_eq_true k
  simp only [List.lookup, e]
theorem lk2 {k g : Str} {v : V} {r : List (Str × V)} (h : (k == g) = false) : List.lookup k ((g, v) :: r) = List.lookup k r := by
  simp only [List.lookup, h]
theorem pt0 {f : Str} {v : V} : putF f v [] = [(f, v)] := rfl
theorem pt1 {f : Str} {v x : V} {r : List (Str × V)} : putF f v ((f, x) :: r) = (f, v) :: r := if_pos rfl
theorem pt2 {f g : Str} {v x : V} {r : List (Str × V)} (h : ¬ g = f) : putF f v ((g, x) :: r) = (g, x) :: putF f v r := if_neg h
/-! ### tests -/
theorem ifB {c : Bool} {A B : Prop} (h1 : c = true → A) (h0 : c = false → B) : if c = true then A else B := by
  cases c with
  | true => exact h1 rfl
  | false => exact h0 rfl
theorem ifP {p : Prop} [Decidable p] {A B : Prop} (h1 : p → A) (h0 : ¬ p → B) : if decide p = true then A else B := by
  by_cases h : p
  · rw [decide_eq_true h]
    exact h1 h
  · rw [decide_eq_false h]
    exact h0 h
theorem ifN {p : Prop} [Decidable p] {A B : Prop} (h1 : ¬ p → A) (h0 : p → B) : if (!decide p) = true then A else B := by
  by_cases h : p
  · rw [decide_eq_true h]
    exact h0 h
  · rw [decide_eq_false h]
    exact h1 h
theorem vi_eq {i j : Int} : (V.int i = V.int j) ↔ i = j := ⟨V.int.inj, fun h => by rw [h]⟩
theorem small {n : Nat} (h : n ≤ 100000) : n ≤ sizeLine := Nat.le_trans h (by decide)
theorem smallL {n : Nat} (h : n < 100000) : n < sizeLine := Nat.lt_of_lt_of_le h (by decide)
theorem SqTo {K : PySem.W.Frag} {H : Hp} {a : PySem.Addr} {xs : List V} (h : H a = some (.tup xs)) : SqL K H a xs ∨ SqT K H a xs := .inr (SqT.of h)
theorem SqLo {K : PySem.W.Frag} {H : Hp} {a : PySem.Addr} {xs : List V} (h : H a = some (.lst xs)) : SqL K H a xs ∨ SqT K H a xs := .inl (SqL.of h)
theorem r62 {n : Nat} (h : n ≤ 100000) : -(2 ^ 62) ≤ (n : Int) ∧ (n : Int) < 2 ^ 62 := by
  have e : (2 : Int) ^ 62 = 4611686018427387904 := by decide
  rw [e]
  omega
theorem r62i {n : Int} (h : -100000 ≤ n) (h' : n ≤ 100000) : -(2 ^ 62) ≤ n ∧ n < 2 ^ 62 := by
  have e : (2 : Int) ^ 62 = 4611686018427387904 := by decide
  rw [e]
  omega

/-! ### slices and sums of tuples, what comes said of one heap -/
def rSlB (K : PySem.W.Frag) : V → Option Int → Option Int → Hp → VK → Prop := fun x lo hi H Q => ∃ a xs, x = .ref a ∧ H a = some (.tup xs) ∧ ∀ p H', Same H H' → H' p = some (.tup (cutV xs lo hi)) → Q (.ref p) H'
theorem cutV_whole {xs : List V} {lo hi : Option Int} (h : HT.sIx xs.length 0 lo = 0 ∧ HT.sIx xs.length xs.length hi = xs.length) : cutV xs lo hi = xs := by
  unfold cutV
  rw [h.1, h.2, List.drop_zero, Nat.sub_zero, List.take_length]
theorem sl_tupB {X : Cx} : SlR X (rSlB X.K) := by
  intro pins s σ H x v vl vu lo hi sl Q I rx hs pl pu h
  obtain ⟨a, xs, rfl, hx, q⟩ := h
  exact sl_tupA pins s σ H _ v vl vu lo hi sl Q I rx hs pl pu ⟨a, xs, rfl, SqT.of hx, fun c => q a H (Same.refl H) (by rw [cutV_whole c]; exact hx), fun _ p hp => q p _ (Same.new hp) upd_same⟩
def rCatB (K : PySem.W.Frag) : R2 := fun x y H Q => ∃ a b xs ys, x = .ref a ∧ y = .ref b ∧ H a = some (.tup xs) ∧ H b = some (.tup ys) ∧ xs.length + ys.length ≤ sizeLine ∧ ∀ p H', Same H H' → H' p = some (.tup (xs ++ ys)) → Q (.ref p) H'
theorem op_catB {X : Cx} : OpR X (binaryOp .Add) (rCatB X.K) := by
  intro pins s σ H x y v u Q I rx ry h
  obtain ⟨a, b, xs, ys, rfl, rfl, ha, hb, hz, q⟩ := h
  exact op_catA pins s σ H _ _ v u Q I rx ry ⟨a, b, xs, ys, rfl, rfl, SqT.of ha, SqT.of hb, hz, fun e => q b H (Same.refl H) (by rw [e]; exact hb), fun _ e => q a H (Same.refl H) (by rw [e, List.append_nil]; exact ha), fun _ _ p hp => q p _ (Same.new hp) upd_same⟩
theorem cut_nat {xs : List V} {i j : Nat} (h : j ≤ xs.length) : cutV xs (some (i : Int)) (some (j : Int)) = (xs.drop i).take (j - i) := by
  unfold cutV
  rw [HT.sIx_nat, HT.sIx_nat, Nat.min_eq_left h]
  by_cases c : i ≤ xs.length
  · rw [Nat.min_eq_left c]
  · rw [Nat.min_eq_right (by omega), List.drop_eq_nil_of_le (Nat.le_refl _), List.drop_eq_nil_of_le (by omega), List.take_nil, List.take_nil]
theorem cut_from {xs : List V} {i : Nat} : cutV xs (some (i : Int)) none = xs.drop i := by
  unfold cutV
  rw [HT.sIx_nat, HT.sIx_none]
  by_cases c : i ≤ xs.length
  · rw [Nat.min_eq_left c, List.take_of_length_le]
    rw [List.length_drop]
    omega
  · rw [Nat.min_eq_right (by omega), List.drop_eq_nil_of_le (Nat.le_refl _), List.drop_eq_nil_of_le (by omega), List.take_nil]
theorem cut_to {xs : List V} {j : Nat} : cutV xs none (some (j : Int)) = xs.take j := by
  unfold cutV
  rw [HT.sIx_nat, HT.sIx_none, List.drop_zero, Nat.sub_zero]
  by_cases c : j ≤ xs.length
  · rw [Nat.min_eq_left c]
  · rw [Nat.min_eq_right (by omega), List.take_of_length_le (Nat.le_refl _), List.take_of_length_le (by omega)]
theorem vl_cut {b : Bytes} {i j : Nat} (h : j ≤ b.length) : cutV (vl b) (some (i : Int)) (some (j : Int)) = vl (Lx.cut b i j) := by
  rw [cut_nat (by rw [vl_length]; exact h)]
  unfold vl Lx.cut
  rw [List.map_take, List.map_drop]
/-- a new instance: all else stands -/
theorem mk_same {H H' : Hp} {x dx C : PySem.Addr} {fs : List (Str × V)} (nx : H x = none) (nd : H dx = none) (b : But x (upd (upd H dx (.own x)) x (.ins C dx fs)) H') : Same H H' := fun c o e =>
  b c o (ne_of_none e nx) (by rw [upd_ne (ne_of_none e nx), upd_ne (ne_of_none e nd)]; exact e)

/-! ### the error -/
def faultD (c p : Int) : HO := .xd [("place", .int p), ("code", .int c)]
/-- the error told: code, place; all that stood stands -/
def Flt (ad : Ad) (H : Hp) (E : XK) (f : VasedBase.Fault) : Prop := ∀ d H', Same H H' → H' d = some (faultD (f.code : Int) (f.place : Int)) → E (.ref ad.cFault) (some d) H'
def sp_Fault_init (ad : Ad) : Sp := fun vs H Q _ => ∃ (a : PySem.Addr) (c p : Int), vs = [.ref a, .int c, .int p] ∧ H a = some (exo a ad.cFault none) ∧
  ∀ d H', H d = none → d ≠ a → But a H H' → H' a = some (exo a ad.cFault (some d)) → H' d = some (exd d [("place", .int p), ("code", .int c)]) → Q .non H'
theorem pmk_F {X : Cx} {mg : Str → Option Value} {ad : Ad} {e : Expr} {es : List Expr} {ta : TA} {p pos : Pos} (T : Txt X.K mg ad) (hmg : X.mg = mg) (G : OkE X.prog X.w X.K X.mg X.base CX0 1 ad.cFault P_Fault_init (sp_Fault_init ad)) (hr : Room 2 X.A) (ha : PA X (e :: es) ta) (hg : Gl X "Fault" := by rfl)
    (he : starEach (e :: es) X.env = (false, eval e X.env) :: starEach es X.env := by rfl) (hpl : (backTo pos (starEach es X.env)).any (·.1) = false := by rfl) : PMk X (.Call (.Name "Fault" p) (e :: es) [] pos) (tMkO ad.cFault (sp_Fault_init ad) [] ta) := by
  obtain ⟨f, fd, i, t, hb, F⟩ := G.ex
  exact pmk_ex T.ex i t F hr hb .nil pass0 hg (by rw [hmg]; exact T.g_Fault) ha (by decide) he hpl
theorem ask_fault {ad : Ad} {H : Hp} {E : XK} {c p : Nat} (k : Flt ad H E ⟨c, p⟩) (a : PySem.Addr) (na : H a = none) (Q : Hp → Prop) (d : PySem.Addr) (H' : Hp) (nd : upd H a (exo a ad.cFault none) d = none) (ne : d ≠ a) (bt : But a (upd H a (exo a ad.cFault none)) H') :
    H d = none ∧ E (.ref ad.cFault) (some d) (upd (L2.del H' a) d (.xd [("place", .int (p : Int)), ("code", .int (c : Int))])) := by
  have hd : H d = none := by rw [upd_ne ne] at nd; exact nd
  refine ⟨hd, k d _ (fun b o e => ?_) upd_same⟩
  rw [upd_ne (ne_of_none e hd), del_ne (ne_of_none e na)]
  exact bt b o (ne_of_none e na) (by rw [upd_ne (ne_of_none e na)]; exact e)

/-! ### tokens -/
def tokW : VasedBase.Tok → Bytes
  | .name b => b
  | _ => []
def tokN : VasedBase.Tok → Nat
  | .num n => n
  | _ => 0
def tokF (t : PTok) (wd : PySem.Addr) : List (Str × V) := [("what", .int (Gr.tokSort t.tok : Int)), ("place", .int (t.place : Int)), ("word", .ref wd), ("amount", .int (tokN t.tok : Int))]
def TokAt (ad : Ad) (H : Hp) (p : PySem.Addr) (t : PTok) : Prop := ∃ dx wd, H p = some (.ins ad.cToken dx (tokF t wd)) ∧ H wd = some (.tup (vl (tokW t.tok)))
def ToksAt (ad : Ad) (H : Hp) (p : PySem.Addr) (l : Toks) : Prop := ∃ as, H p = some (.lst (as.map V.ref)) ∧ Paired (TokAt ad H) as l
section
variable {K : PySem.W.Frag} {mg : Str → Option Value} {ad : Ad} {H H' : Hp} {p : PySem.Addr} {t : PTok} {Q : VK}
theorem TokAt.same (s : Same H H') (h : TokAt ad H p t) : TokAt ad H' p t := let ⟨dx, wd, e, ew⟩ := h; ⟨dx, wd, s _ _ e, s _ _ ew⟩
theorem ToksAt.same {l : Toks} (s : Same H H') (h : ToksAt ad H p l) : ToksAt ad H' p l := let ⟨as, e, r⟩ := h; ⟨as, s _ _ e, Paired.mapP r fun _ _ q => q.same s⟩
noncomputable def TokAt.dx (h : TokAt ad H p t) : PySem.Addr := Classical.choose h
noncomputable def TokAt.wd (h : TokAt ad H p t) : PySem.Addr := Classical.choose (Classical.choose_spec h)
theorem TokAt.ins (h : TokAt ad H p t) : H p = some (.ins ad.cToken h.dx (tokF t h.wd)) := (Classical.choose_spec (Classical.choose_spec h)).1
theorem TokAt.word (h : TokAt ad H p t) : H h.wd = some (.tup (vl (tokW t.tok))) := (Classical.choose_spec (Classical.choose_spec h)).2
theorem tokF_what {wd : PySem.Addr} : (tokF t wd).lookup ("what" : Str) = some (.int (Gr.tokSort t.tok : Int)) := lk1
theorem tokF_place {wd : PySem.Addr} : (tokF t wd).lookup ("place" : Str) = some (.int (t.place : Int)) := (lk2 (by decide +kernel)).trans lk1
theorem tokF_word {wd : PySem.Addr} : (tokF t wd).lookup ("word" : Str) = some (.ref wd) := (lk2 (by decide +kernel)).trans ((lk2 (by decide +kernel)).trans lk1)
theorem tokF_amount {wd : PySem.Addr} : (tokF t wd).lookup ("amount" : Str) = some (.int (tokN t.tok : Int)) := (lk2 (by decide +kernel)).trans ((lk2 (by decide +kernel)).trans ((lk2 (by decide +kernel)).trans lk1))
end

/-! ### commands -/
def nNot : Vaseda.Addr → Nat
  | .not a => nNot a + 1
  | _ => 0
def coreA : Vaseda.Addr → Vaseda.Addr
  | .not a => coreA a
  | a => a
def aWhat : Vaseda.Addr → Nat
  | .all => 1
  | .line _ => 2
  | .span _ _ => 3
  | .last => 5
  | .has _ => 6
  | .is_ _ => 7
  | .not a => aWhat a
def aLow : Vaseda.Addr → Nat
  | .line n => n
  | .span a _ => a
  | .not a => aLow a
  | _ => 0
def aHigh : Vaseda.Addr → Nat
  | .line n => n
  | .span _ b => b
  | .not a => aHigh a
  | _ => 0
def aWord : Vaseda.Addr → Bytes
  | .has w => w
  | .is_ w => w
  | .not a => aWord a
  | _ => []
def addrF (A : Vaseda.Addr) (wd : PySem.Addr) : List (Str × V) := [("nots", .int (nNot A : Int)), ("what", .int (aWhat A : Int)), ("low", .int (aLow A : Int)), ("high", .int (aHigh A : Int)), ("word", .ref wd)]
def AddrAt (ad : Ad) (H : Hp) (p : PySem.Addr) (A : Vaseda.Addr) : Prop := ∃ dx wd, H p = some (.ins ad.cAddress dx (addrF A wd)) ∧ H wd = some (.tup (vl (aWord A)))
def dWhat : Deed → Nat
  | .delete => 9
  | .before _ => 10
  | .after _ => 11
  | .change _ => 12
  | .swap _ _ => 13
  | .first _ _ => 14
  | .keep => 15
  | .bring => 16
  | .trade => 17
  | .skip _ => 18
  | .halt_ => 19
def dWord : Deed → Bytes
  | .before w => w
  | .after w => w
  | .change w => w
  | _ => []
def dMany : Deed → Nat
  | .skip k => k
  | _ => 0
def deedF (d : Deed) (wd : PySem.Addr) : List (Str × V) := [("what", .int (dWhat d : Int)), ("word", .ref wd), ("many", .int (dMany d : Int))]
def DeedAt (ad : Ad) (H : Hp) (p : PySem.Addr) (d : Deed) : Prop := ∃ dx wd, H p = some (.ins ad.cDeed dx (deedF d wd)) ∧ H wd = some (.tup (vl (dWord d)))
def CmdAt (ad : Ad) (H : Hp) (p : PySem.Addr) (c : Cmd) : Prop := ∃ pa pd, H p = some (.tup [.ref pa, .ref pd]) ∧ AddrAt ad H pa c.a ∧ DeedAt ad H pd c.d
def CmdsAt (ad : Ad) (H : Hp) (p : PySem.Addr) (s : Script) : Prop := ∃ as, H p = some (.lst (as.map V.ref)) ∧ Paired (CmdAt ad H) as s
section
variable {K : PySem.W.Frag} {mg : Str → Option Value} {ad : Ad} {H H' : Hp} {p : PySem.Addr} {A : Vaseda.Addr} {d : Deed} {Q : VK}
theorem AddrAt.same (s : Same H H') (h : AddrAt ad H p A) : AddrAt ad H' p A := let ⟨dx, wd, e, ew⟩ := h; ⟨dx, wd, s _ _ e, s _ _ ew⟩
theorem DeedAt.same (s : Same H H') (h : DeedAt ad H p d) : DeedAt ad H' p d := let ⟨dx, wd, e, ew⟩ := h; ⟨dx, wd, s _ _ e, s _ _ ew⟩
theorem CmdAt.same {c : Cmd} (s : Same H H') (h : CmdAt ad H p c) : CmdAt ad H' p c := let ⟨pa, pd, e, a, d⟩ := h; ⟨pa, pd, s _ _ e, a.same s, d.same s⟩
theorem CmdsAt.same {c : Script} (s : Same H H') (h : CmdsAt ad H p c) : CmdsAt ad H' p c := let ⟨as, e, r⟩ := h; ⟨as, s _ _ e, Paired.mapP r fun _ _ q => q.same s⟩
noncomputable def AddrAt.dx (h : AddrAt ad H p A) : PySem.Addr := Classical.choose h
noncomputable def AddrAt.wd (h : AddrAt ad H p A) : PySem.Addr := Classical.choose (Classical.choose_spec h)
theorem AddrAt.ins (h : AddrAt ad H p A) : H p = some (.ins ad.cAddress h.dx (addrF A h.wd)) := (Classical.choose_spec (Classical.choose_spec h)).1
theorem AddrAt.word (h : AddrAt ad H p A) : H h.wd = some (.tup (vl (aWord A))) := (Classical.choose_spec (Classical.choose_spec h)).2
theorem addrF_nots {wd : PySem.Addr} : (addrF A wd).lookup ("nots" : Str) = some (.int (nNot A : Int)) := lk1
theorem addrF_what {wd : PySem.Addr} : (addrF A wd).lookup ("what" : Str) = some (.int (aWhat A : Int)) := (lk2 (by decide +kernel)).trans lk1
theorem addrF_low {wd : PySem.Addr} : (addrF A wd).lookup ("low" : Str) = some (.int (aLow A : Int)) := (lk2 (by decide +kernel)).trans ((lk2 (by decide +kernel)).trans lk1)
theorem addrF_high {wd : PySem.Addr} : (addrF A wd).lookup ("high" : Str) = some (.int (aHigh A : Int)) := (lk2 (by decide +kernel)).trans ((lk2 (by decide +kernel)).trans ((lk2 (by decide +kernel)).trans lk1))
theorem addrF_word {wd : PySem.Addr} : (addrF A wd).lookup ("word" : Str) = some (.ref wd) := (lk2 (by decide +kernel)).trans ((lk2 (by decide +kernel)).trans ((lk2 (by decide +kernel)).trans ((lk2 (by decide +kernel)).trans lk1)))
noncomputable def DeedAt.dx (h : DeedAt ad H p d) : PySem.Addr := Classical.choose h
noncomputable def DeedAt.wd (h : DeedAt ad H p d) : PySem.Addr := Classical.choose (Classical.choose_spec h)
theorem DeedAt.ins (h : DeedAt ad H p d) : H p = some (.ins ad.cDeed h.dx (deedF d h.wd)) := (Classical.choose_spec (Classical.choose_spec h)).1
theorem DeedAt.word (h : DeedAt ad H p d) : H h.wd = some (.tup (vl (dWord d))) := (Classical.choose_spec (Classical.choose_spec h)).2
theorem deedF_what {wd : PySem.Addr} : (deedF d wd).lookup ("what" : Str) = some (.int (dWhat d : Int)) := lk1
theorem deedF_word {wd : PySem.Addr} : (deedF d wd).lookup ("word" : Str) = some (.ref wd) := (lk2 (by decide +kernel)).trans lk1
theorem deedF_many {wd : PySem.Addr} : (deedF d wd).lookup ("many" : Str) = some (.int (dMany d : Int)) := (lk2 (by decide +kernel)).trans ((lk2 (by decide +kernel)).trans lk1)
end

/-! ### what one object's change leaves -/
structure Apart (H : Hp) (d : PySem.Addr) : Prop where
  tup : ∀ xs, H d ≠ some (.tup xs)
  ins : ∀ (C dx : PySem.Addr) (k : Str) (v : V) (r : List (Str × V)), k = "what" ∨ k = "nots" → H d ≠ some (.ins C dx ((k, v) :: r))
section
variable {ad : Ad} {H H' : Hp} {d p : PySem.Addr}
theorem Apart.lst {xs : List V} (h : H d = some (.lst xs)) : Apart H d where
  tup := fun ys e => by
    rw [h] at e
    cases e
  ins := fun C dx k v r _ e => by
    rw [h] at e
    cases e
theorem Apart.ext {φ : Heap → Prop} (h : H d = some (.ext φ)) : Apart H d where
  tup := fun ys e => by
    rw [h] at e
    cases e
  ins := fun C dx k v r _ e => by
    rw [h] at e
    cases e
theorem Apart.insK {C dx : PySem.Addr} {k : Str} {v : V} {r : List (Str × V)} (h : H d = some (.ins C dx ((k, v) :: r))) (n1 : k ≠ "what") (n2 : k ≠ "nots") : Apart H d where
  tup := fun ys e => by
    rw [h] at e
    cases e
  ins := fun C dx k v r hk e => by
    rw [h] at e
    cases e
    rcases hk with hk | hk
    · exact n1 hk
    · exact n2 hk
theorem Apart.line (A : Apart H d) (b : But d H H') {a : PySem.Addr} {xs : List V} (h : H a = some (.tup xs)) : H' a = some (.tup xs) := b a _ (fun z => A.tup xs (by rw [← z]; exact h)) h
theorem LinesR.but (A : Apart H d) (b : But d H H') {as : List PySem.Addr} {ls : List Bytes} (h : LinesR H as ls) : LinesR H' as ls := h.imp fun a x e => A.line b e
theorem LinesT.but (A : Apart H d) (b : But d H H') {ls : List Bytes} (h : LinesT H p ls) : LinesT H' p ls := let ⟨as, e, r⟩ := h; ⟨as, A.line b e, r.but A b⟩
theorem LinesL.but (A : Apart H d) (b : But d H H') (ne : p ≠ d) {ls : List Bytes} (h : LinesL H p ls) : LinesL H' p ls := let ⟨as, e, r⟩ := h; ⟨as, b _ _ ne e, r.but A b⟩
theorem TokAt.but (A : Apart H d) (b : But d H H') {t : PTok} (h : TokAt ad H p t) : TokAt ad H' p t :=
  let ⟨dx, wd, e, ew⟩ := h; ⟨dx, wd, b p _ (fun z => A.ins _ _ _ _ _ (.inl rfl) (by rw [← z]; exact e)) e, A.line b ew⟩
theorem AddrAt.but (A : Apart H d) (b : But d H H') {x : Vaseda.Addr} (h : AddrAt ad H p x) : AddrAt ad H' p x :=
  let ⟨dx, wd, e, ew⟩ := h; ⟨dx, wd, b p _ (fun z => A.ins _ _ _ _ _ (.inr rfl) (by rw [← z]; exact e)) e, A.line b ew⟩
theorem DeedAt.but (A : Apart H d) (b : But d H H') {x : Deed} (h : DeedAt ad H p x) : DeedAt ad H' p x :=
  let ⟨dx, wd, e, ew⟩ := h; ⟨dx, wd, b p _ (fun z => A.ins _ _ _ _ _ (.inl rfl) (by rw [← z]; exact e)) e, A.line b ew⟩
theorem CmdAt.but (A : Apart H d) (b : But d H H') {c : Cmd} (h : CmdAt ad H p c) : CmdAt ad H' p c := let ⟨pa, pd, e, x, y⟩ := h; ⟨pa, pd, A.line b e, x.but A b, y.but A b⟩
theorem CmdsAt.but (A : Apart H d) (b : But d H H') (ne : p ≠ d) {s : Script} (h : CmdsAt ad H p s) : CmdsAt ad H' p s := let ⟨as, e, r⟩ := h; ⟨as, b _ _ ne e, Paired.mapP r fun _ _ q => q.but A b⟩
theorem ToksAt.but (A : Apart H d) (b : But d H H') (ne : p ≠ d) {l : Toks} (h : ToksAt ad H p l) : ToksAt ad H' p l := let ⟨as, e, r⟩ := h; ⟨as, b _ _ ne e, Paired.mapP r fun _ _ q => q.but A b⟩
end
theorem Flt.mono {ad : Ad} {H H1 : Hp} {E : XK} {f : VasedBase.Fault} (s : Same H H1) (k : Flt ad H E f) : Flt ad H1 E f := fun d H' s' e => k d H' (s.trans s') e
/-- what a list of a heap is -/
def tyL {K : PySem.W.Frag} {H : Hp} {l : PySem.Addr} {xs : List V} (h : H l = some (.lst xs)) : tyV K "list" (.ref l) H := .inl ⟨rfl, _, SqL.of h⟩

/-- raise Fault(c, p), told -/
theorem r_raise {ad : Ad} {H : Hp} {E : XK} {c p : Nat} (k : Flt ad H E ⟨c, p⟩) : 2 ≤ 1000 ∧ ∀ x, H x = none → sp_Fault_init ad (.ref x :: ([.int (c : Int), .int (p : Int)] ++ [])) (upd H x (exo x ad.cFault none))
    (fun v H2 => v = .non ∧ ∃ (d : PySem.Addr) (fs : List (Str × V)), H2 x = some (exo x ad.cFault (some d)) ∧ H2 d = some (exd d fs) ∧ H d = none ∧ E (.ref ad.cFault) (some d) (upd (L2.del H2 x) d (.xd fs))) (fun _ _ _ => False) :=
  ⟨by decide, fun x nx => ⟨x, (c : Int), (p : Int), rfl, upd_same, fun d H' nd ne bt q1 q2 => ⟨rfl, d, _, q1, q2, ask_fault k x nx (fun _ => True) d H' nd ne bt⟩⟩⟩
theorem inV_ints (n : Int) : ∀ ks : List Int, inV (.int n) (ks.map V.int) = decide (n ∈ ks)
  | [] => by simp [inV]
  | k :: r => by
    have ih := inV_ints n r
    unfold inV at ih ⊢
    rw [List.map_cons, List.any_cons, ih, Bool.eq_iff_iff]
    show ((k == n) || decide (n ∈ r)) = true ↔ _
    rw [Bool.or_eq_true, beq_iff_eq, decide_eq_true_iff, decide_eq_true_iff, List.mem_cons]
    exact ⟨fun h => h.imp_left Eq.symm, fun h => h.imp_left Eq.symm⟩
end Lw

/-! words, reading -/
namespace Lw
open PySem PySem.Spec PyProof.Rows L2
open VasedBase (Bytes PTok Toks)
open Vaseda (Deed Cmd Script Line)
section
variable {P : Program} {w : World} {K : PySem.W.Frag} {mg : Str → Option Value} {base : Heap} {ad : Ad}
/-! ### spells -/
theorem sc_spells : FnScope N_spells P_spells (defScope s_spells) := ⟨rfl, rfl, rfl, by decide +kernel, rfl, by decide +kernel, by decide +kernel⟩
def sp_spells : Sp := fun vs H Q _ => ∃ (a : PySem.Addr) (b : Bytes) (x : Str) (c : Bytes), vs = [.ref a, .str x] ∧ H a = some (.tup (vl b)) ∧ b.length ≤ 64 ∧ x.cps.toList = c.map (·.toNat) ∧ c.length ≤ 64 ∧ Q (.bl (decide (b = c))) H
theorem str_len {x : Str} {c : Bytes} (h : x.cps.toList = c.map (·.toNat)) : x.length = c.length := by
  have := congrArg List.length h
  rw [List.length_map] at this
  rw [← this]
  exact (Array.length_toList ..).symm
theorem ok_spells (T : Txt K mg ad) : OkD P w K mg base CX0 1 "spells" P_spells sp_spells := by
  obtain ⟨f, fd, hm, F, hb⟩ := T.d_spells
  refine ⟨f, fd, hm, F.kp, hb, F.ok sc_spells (fun vs H Q E h => ?_) (fun cdv A outer s H vs Q E hr h => ⟨_, (pss_cons (ps_if (pt_cmpR op_ne (pe_callB call_len_seq (by rfl) T.n_len PySem.boot_len (pa_cons (pv 0) pa_nil)) (pe_callB call_len_str (by rfl) T.n_len PySem.boot_len (pa_cons (pv 1) pa_nil)) (nomark _))
     (pss_one (ps_ret pe_bl))
     pss_nil)
     (pss_cons (ps_for PassesOwn.never rfl (pi_range1 rfl T.n_range (pa_cons (pe_callB call_len_seq (by rfl) T.n_len PySem.boot_len (pa_cons (pv 0) pa_nil)) pa_nil)) (pg_name (i := 2) sc_spells.nd rfl (Or.inl rfl))
     (pss_one (ps_if (pt_cmpR op_ne (pe_ix ix_tup (pv 0) (pv 2) (fun _ _ => rfl)) (pe_callB call_ord (by rfl) T.n_ord (by decide +kernel) (pa_cons (pe_ix ix_str (pv 1) (pv 2) (fun _ _ => rfl)) pa_nil)) (nomark _))
     (pss_one (ps_ret pe_bl))
     pss_nil)))
     (pss_one (ps_ret pe_bl)))), ?_⟩)⟩
  · obtain ⟨a, b, x, c, rfl, _⟩ := h
    rfl
  · obtain ⟨a, b, x, c, rfl, hw, lw, hx, lx, k⟩ := h
    have xl := str_len hx
    refine ⟨_, rfl, a, _, rfl, .inr (SqT.of hw), _, rfl, x, rfl, small (by omega), rfl, _, rfl, ?_⟩
    refine ifN (fun e => ?_) (fun e => ?_)
    · have : ¬ b = c := fun z => e (by rw [vl_length, xl, z])
      rw [decide_eq_false this] at k
      exact k
    have bc : b.length = c.length := by rw [vi_eq, vl_length, xl] at e; omega
    refine ⟨_, rfl, a, _, rfl, SqTo hw, _, rfl, (r62 (by rw [vl_length]; omega)).1, (r62 (by rw [vl_length]; omega)).2, for_range (fun i σ H' => H' = H ∧ (∃ v, σ = [some (.ref a), some (.str x), v]) ∧ b.take i = c.take i) ⟨rfl, ⟨_, rfl⟩, rfl⟩ ?_ ?_⟩
    · rintro i σ H' hi ⟨rfl, ⟨v, rfl⟩, tk⟩
      rw [vl_length] at hi
      have hi' : i < b.length := by omega
      have hb : b[i]? = some b[i] := List.getElem?_eq_getElem hi'
      have hc : c[i]? = some c[i] := List.getElem?_eq_getElem (by omega)
      rw [Int.zero_add]
      refine ⟨_, rfl, _, rfl, a, _, _, vb b[i], rfl, rfl, SqT.of hw, atI_nat (vl_at hb), _, rfl, _, rfl, x, _, c[i].toNat, rfl, rfl, small (by omega), atI_nat (by rw [hx, List.getElem?_map, hc]; rfl), ⟨#[c[i].toNat]⟩, rfl, rfl, rfl, _, rfl, ?_⟩
      refine ifN (fun e => ?_) (fun e => ?_)
      · have : ¬ b = c := fun z => e (by subst z; rfl)
        rw [decide_eq_false this] at k
        exact k
      · refine ⟨rfl, ⟨_, rfl⟩, ?_⟩
        have : b[i] = c[i] := vb_inj e
        rw [List.take_add_one, List.take_add_one, tk, hb, hc, this]
    · rintro σ H' ⟨rfl, ⟨v, rfl⟩, tk⟩
      rw [vl_length] at tk
      have : b = c := by
        have h1 : b.take (b.length : Int).toNat = b := List.take_of_length_le (by omega)
        have h2 : c.take (b.length : Int).toNat = c := List.take_of_length_le (by omega)
        rw [h1, h2] at tk
        exact tk
      rw [decide_eq_true this] at k
      exact k

/-! ### sort_of_word -/
theorem sc_sort_of_word : FnScope N_sort_of_word P_sort_of_word (defScope s_sort_of_word) := ⟨rfl, rfl, rfl, by decide +kernel, rfl, by decide +kernel, by decide +kernel⟩
def sp_sort_of_word : Sp := fun vs H Q _ => ∃ (a : PySem.Addr) (b : Bytes), vs = [.ref a] ∧ H a = some (.tup (vl b)) ∧ b.length ≤ 64 ∧ Q (.int (Gr.sortOf b : Int)) H
def ownCheck : Bool := (List.range 21).all fun i => match ownV[i]?, VasedBase.RESERVED[i]? with
  | some (.str s), some w => decide (s.cps.toList = w.map (·.toNat)) && decide (w.length ≤ 64)
  | _, _ => false
theorem own_ok : ownCheck = true := by decide +kernel
theorem own_at {i : Nat} (h : i < 21) : ∃ (s : Str) (w : Bytes), ownV[i]? = some (.str s) ∧ VasedBase.RESERVED[i]? = some w ∧ s.cps.toList = w.map (·.toNat) ∧ w.length ≤ 64 := by
  have q := List.all_eq_true.mp own_ok i (List.mem_range.mpr h)
  split at q
  · rename_i s w e1 e2
    rw [Bool.and_eq_true, decide_eq_true_iff, decide_eq_true_iff] at q
    exact ⟨s, w, e1, e2, q.1, q.2⟩
  · cases q
theorem ok_sort_of_word (T : Txt K mg ad) : OkD P w K mg base CX0 2 "sort_of_word" P_sort_of_word sp_sort_of_word := by
  obtain ⟨f, fd, hm, F, hb⟩ := T.d_sort_of_word
  have G_spells : OkD P w K mg base CX0 1 "spells" P_spells sp_spells := ok_spells T
  refine ⟨f, fd, hm, F.kp, hb, F.ok sc_sort_of_word (fun vs H Q E h => ?_) (fun cdv A outer s H vs Q E hr h => ⟨_, (pss_cons (ps_for PassesOwn.never rfl (pi_range1 rfl T.n_range (pa_cons (pe_callB call_len_seq (by rfl) T.n_len PySem.boot_len (pa_cons (pe_glob (v := .ref ad.ow) rfl T.g_OWN_WORDS rfl) pa_nil)) pa_nil)) (pg_name (i := 1) sc_sort_of_word.nd rfl (Or.inl rfl))
     (pss_one (ps_if (pt_val (pe_callD (G_spells) (hr.mono (by decide)) pass0 (pa_cons (pv 0) (pa_cons (pe_ix ix_tup (pe_glob (v := .ref ad.ow) rfl T.g_OWN_WORDS rfl) (pv 1) (fun _ _ => rfl)) pa_nil))))
     (pss_one (ps_ret (pv 1)))
     pss_nil)))
     (pss_one (ps_ret (g_int 21 T.g_LETTERS)))), ?_⟩)⟩
  · obtain ⟨a, b, rfl, _⟩ := h
    rfl
  · obtain ⟨a, b, rfl, hw, lw, k⟩ := h
    have len : ownV.length = 21 := rfl
    refine ⟨ad.ow, _, rfl, .inr (T.ow H), _, rfl, by rw [len]; decide, by rw [len]; decide, for_range (fun i σ H' => H' = H ∧ (∃ v, σ = [some (.ref a), v]) ∧ Gr.sortIn b (VasedBase.RESERVED.drop i) i = Gr.sortOf b) ⟨rfl, ⟨_, rfl⟩, rfl⟩ ?_ ?_⟩
    · rintro i σ H' hi ⟨rfl, ⟨v, rfl⟩, inv⟩
      have hi' : i < 21 := hi
      obtain ⟨s, wd, e1, e2, e3, e4⟩ := own_at hi'
      rw [Int.zero_add]
      refine ⟨_, rfl, _, rfl, ad.ow, _, _, _, rfl, rfl, T.ow H', atI_nat e1, ?_⟩
      refine ⟨a, b, s, wd, rfl, hw, lw, e3, e4, _, rfl, ?_⟩
      rw [Lx.drop_at' e2] at inv
      refine ifP (fun e => ?_) (fun e => ?_)
      · refine ⟨_, rfl, ?_⟩
        rw [Gr.sortIn, if_pos e] at inv
        rw [← inv] at k
        exact k
      · refine ⟨rfl, ⟨_, rfl⟩, ?_⟩
        rw [Gr.sortIn, if_neg e] at inv
        exact inv
    · rintro σ H' ⟨rfl, ⟨v, rfl⟩, inv⟩
      have inv' : 21 = Gr.sortOf b := inv
      rw [← inv'] at k
      exact k

/-! ### bytes -/
theorem vbe {c d : UInt8} {n : Int} (h : (d.toNat : Int) = n) : (vb c = .int n) ↔ c = d := by
  subst h
  exact ⟨vb_inj, fun e => by rw [e]; rfl⟩
theorem vb_le {c : UInt8} {n : Nat} : ((n : Int) ≤ (c.toNat : Int)) ↔ n ≤ c.toNat := by omega
theorem sc_is_blank : FnScope N_is_blank P_is_blank (defScope s_is_blank) := ⟨rfl, rfl, rfl, by decide +kernel, rfl, by decide +kernel, by decide +kernel⟩
def sp_is_blank : Sp := fun vs H Q _ => ∃ c : UInt8, vs = [vb c] ∧ Q (.bl (VasedBase.isBlank c)) H
theorem ok_is_blank (T : Txt K mg ad) : OkD P w K mg base CX0 1 "is_blank" P_is_blank sp_is_blank := by
  obtain ⟨f, fd, hm, F, hb⟩ := T.d_is_blank
  refine ⟨f, fd, hm, F.kp, hb, F.ok sc_is_blank (fun vs H Q E h => ?_) (fun cdv A outer s H vs Q E hr h => ⟨_, (pss_one (ps_ret (pe_or (pe_cmpR op_eq (pv 0) pe_int (nomark _)) (pe_or (pe_cmpR op_eq (pv 0) pe_int (nomark _)) (pe_one (pe_cmpR op_eq (pv 0) pe_int (nomark _))))))), ?_⟩)⟩
  · obtain ⟨c, rfl, _⟩ := h
    rfl
  · obtain ⟨c, rfl, k⟩ := h
    have hbl : VasedBase.isBlank c = (decide (c = 32) || (decide (c = 9) || decide (c = 10))) := by unfold VasedBase.isBlank; rw [Bool.eq_iff_iff]; simp
    refine ⟨_, rfl, rfl, _, rfl, ?_⟩
    refine ifP (fun e => ?_) (fun e => ?_)
    · rw [hbl, decide_eq_true ((vbe (d := 32) rfl).mp e)] at k
      exact k
    refine ⟨_, rfl, rfl, _, rfl, ?_⟩
    refine ifP (fun e2 => ?_) (fun e2 => ?_)
    · rw [hbl, decide_eq_true ((vbe (d := 9) rfl).mp e2), Bool.true_or, Bool.or_true] at k
      exact k
    refine ⟨_, rfl, rfl, ?_⟩
    have q : decide (vb c = .int 10) = VasedBase.isBlank c := by
      rw [hbl, decide_eq_false fun z => e ((vbe (d := 32) rfl).mpr z), decide_eq_false fun z => e2 ((vbe (d := 9) rfl).mpr z), Bool.false_or, Bool.false_or]
      exact decide_eq_decide.mpr (vbe (d := 10) rfl)
    rw [← q] at k
    exact k
theorem sc_is_letter : FnScope N_is_letter P_is_letter (defScope s_is_letter) := ⟨rfl, rfl, rfl, by decide +kernel, rfl, by decide +kernel, by decide +kernel⟩
def sp_is_letter : Sp := fun vs H Q _ => ∃ c : UInt8, vs = [vb c] ∧ Q (.bl (VasedBase.isLetter c)) H
theorem ok_is_letter (T : Txt K mg ad) : OkD P w K mg base CX0 1 "is_letter" P_is_letter sp_is_letter := by
  obtain ⟨f, fd, hm, F, hb⟩ := T.d_is_letter
  refine ⟨f, fd, hm, F.kp, hb, F.ok sc_is_letter (fun vs H Q E h => ?_) (fun cdv A outer s H vs Q E hr h => ⟨_, (pss_one (ps_ret (pe_chain op_le op_le pe_int (pv 0) pe_int))), ?_⟩)⟩
  · obtain ⟨c, rfl, _⟩ := h
    rfl
  · obtain ⟨c, rfl, k⟩ := h
    refine ⟨_, rfl, _, _, rfl, rfl, _, rfl, ?_⟩
    refine ifP (fun e => ?_) (fun e => ?_)
    · refine ⟨_, _, rfl, rfl, ?_⟩
      have q : decide ((c.toNat : Int) ≤ 122) = VasedBase.isLetter c := by
        unfold VasedBase.isLetter
        exact decide_eq_decide.mpr ⟨fun z => ⟨by omega, by omega⟩, fun z => by omega⟩
      rw [← q] at k
      exact k
    · have q : false = VasedBase.isLetter c := by
        unfold VasedBase.isLetter
        exact (decide_eq_false fun z => e (by omega)).symm
      rw [← q] at k
      exact k
theorem sc_is_digit : FnScope N_is_digit P_is_digit (defScope s_is_digit) := ⟨rfl, rfl, rfl, by decide +kernel, rfl, by decide +kernel, by decide +kernel⟩
def sp_is_digit : Sp := fun vs H Q _ => ∃ c : UInt8, vs = [vb c] ∧ Q (.bl (VasedBase.isDigit c)) H
theorem ok_is_digit (T : Txt K mg ad) : OkD P w K mg base CX0 1 "is_digit" P_is_digit sp_is_digit := by
  obtain ⟨f, fd, hm, F, hb⟩ := T.d_is_digit
  refine ⟨f, fd, hm, F.kp, hb, F.ok sc_is_digit (fun vs H Q E h => ?_) (fun cdv A outer s H vs Q E hr h => ⟨_, (pss_one (ps_ret (pe_chain op_le op_le pe_int (pv 0) pe_int))), ?_⟩)⟩
  · obtain ⟨c, rfl, _⟩ := h
    rfl
  · obtain ⟨c, rfl, k⟩ := h
    refine ⟨_, rfl, _, _, rfl, rfl, _, rfl, ?_⟩
    refine ifP (fun e => ?_) (fun e => ?_)
    · refine ⟨_, _, rfl, rfl, ?_⟩
      have q : decide ((c.toNat : Int) ≤ 57) = VasedBase.isDigit c := by
        unfold VasedBase.isDigit
        exact decide_eq_decide.mpr ⟨fun z => ⟨by omega, by omega⟩, fun z => by omega⟩
      rw [← q] at k
      exact k
    · have q : false = VasedBase.isDigit c := by
        unfold VasedBase.isDigit
        exact (decide_eq_false fun z => e (by omega)).symm
      rw [← q] at k
      exact k

/-! ### places in a script: the list at a holds b -/
def MAXB : Nat := 20000
theorem sc_remark_end : FnScope N_remark_end P_remark_end (defScope s_remark_end) := ⟨rfl, rfl, rfl, by decide +kernel, rfl, by decide +kernel, by decide +kernel⟩
def sp_remark_end : Sp := fun vs H Q _ => ∃ (a : PySem.Addr) (b : Bytes) (k : Nat), vs = [.ref a, .int (k : Int)] ∧ H a = some (.lst (vl b)) ∧ k ≤ b.length ∧ b.length ≤ 20000 ∧ Q (.int (Lx.firstAt (· == 10) b k : Int)) H
theorem ok_remark_end (T : Txt K mg ad) : OkD P w K mg base CX0 1 "remark_end" P_remark_end sp_remark_end := by
  obtain ⟨f, fd, hm, F, hb⟩ := T.d_remark_end
  refine ⟨f, fd, hm, F.kp, hb, F.ok sc_remark_end (fun vs H Q E h => ?_) (fun cdv A outer s H vs Q E hr h => ⟨_, (pss_cons (ps_for PassesOwn.never rfl (pi_range2 rfl T.n_range (pa_cons (pv 1) (pa_cons (pe_callB call_len_seq (by rfl) T.n_len PySem.boot_len (pa_cons (pv 0) pa_nil)) pa_nil))) (pg_name (i := 2) sc_remark_end.nd rfl (Or.inl rfl))
     (pss_one (ps_if (pt_cmpR op_eq (pe_ix ix_list (pv 0) (pv 2) (fun _ _ => rfl)) pe_int (nomark _))
     (pss_one (ps_ret (pv 2)))
     pss_nil)))
     (pss_one (ps_ret (pe_callB call_len_seq (by rfl) T.n_len PySem.boot_len (pa_cons (pv 0) pa_nil))))), ?_⟩)⟩
  · obtain ⟨a, b, k, rfl, _⟩ := h
    rfl
  · obtain ⟨a, b, i, rfl, hB, hi, hl, k⟩ := h
    refine ⟨_, rfl, _, rfl, a, _, rfl, SqLo hB, _, _, rfl, ⟨(r62 (by omega)).1, (r62 (by omega)).2, (r62 (by rw [vl_length]; omega)).1, (r62 (by rw [vl_length]; omega)).2⟩, for_range (fun j σ H' => H' = H ∧ (∃ v, σ = [some (.ref a), some (.int (i : Int)), v]) ∧ ∀ (m : Nat) c, m < j → (b.drop i)[m]? = some c → (c == 10) = false) ⟨rfl, ⟨_, rfl⟩, fun m c hm => absurd hm (Nat.not_lt_zero _)⟩ ?_ ?_⟩
    · rintro j σ H' hj ⟨rfl, ⟨v, rfl⟩, inv⟩
      rw [vl_length] at hj
      have hj' : i + j < b.length := by omega
      have hc : b[i + j]? = some b[i + j] := List.getElem?_eq_getElem hj'
      have e0 : (i : Int) + (j : Int) = ((i + j : Nat) : Int) := by omega
      rw [e0]
      refine ⟨_, rfl, _, rfl, a, _, _, _, rfl, rfl, SqL.of hB, atI_nat (vl_at hc), rfl, _, rfl, ?_⟩
      refine ifP (fun e => ?_) (fun e => ?_)
      · refine ⟨_, rfl, ?_⟩
        have e' := (vbe (d := 10) rfl).mp e
        have : Lx.firstAt (· == 10) b i = i + j := by
          unfold Lx.firstAt
          rw [Lx.tw_stop (i := j) (b := b[i + j]) inv (by rw [List.getElem?_drop]; exact hc) (by rw [e']; rfl)]
        rw [this] at k
        exact k
      · refine ⟨rfl, ⟨_, rfl⟩, fun m c hm hmc => ?_⟩
        rcases Nat.lt_succ_iff_lt_or_eq.mp hm with hm | rfl
        · exact inv m c hm hmc
        · rw [List.getElem?_drop, hc] at hmc
          cases hmc
          exact beq_eq_false_iff_ne.mpr fun z => e ((vbe (d := 10) rfl).mpr z)
    · rintro σ H' ⟨rfl, ⟨v, rfl⟩, inv⟩
      rw [vl_length] at inv
      refine ⟨_, rfl, a, _, rfl, SqLo hB, ?_⟩
      have : Lx.firstAt (· == 10) b i = b.length := by
        unfold Lx.firstAt
        rw [Lx.tw_all fun m c hmc => inv m c (by have := (List.getElem?_eq_some_iff.mp hmc).1; rw [List.length_drop] at this; omega) hmc, List.length_drop]
        omega
      rw [this, ← vl_length] at k
      exact k
theorem sc_run_end : FnScope N_run_end P_run_end (defScope s_run_end) := ⟨rfl, rfl, rfl, by decide +kernel, rfl, by decide +kernel, by decide +kernel⟩
def sp_run_end : Sp := fun vs H Q _ => ∃ (a : PySem.Addr) (b : Bytes) (k lo hi : Nat), vs = [.ref a, .int (k : Int), .int (lo : Int), .int (hi : Int)] ∧ H a = some (.lst (vl b)) ∧ k ≤ b.length ∧ b.length ≤ 20000 ∧ Q (.int (Lx.firstAt (Lx.out lo hi) b k : Int)) H
theorem ok_run_end (T : Txt K mg ad) : OkD P w K mg base CX0 1 "run_end" P_run_end sp_run_end := by
  obtain ⟨f, fd, hm, F, hb⟩ := T.d_run_end
  refine ⟨f, fd, hm, F.kp, hb, F.ok sc_run_end (fun vs H Q E h => ?_) (fun cdv A outer s H vs Q E hr h => ⟨_, (pss_cons (ps_for PassesOwn.never rfl (pi_range2 rfl T.n_range (pa_cons (pv 1) (pa_cons (pe_callB call_len_seq (by rfl) T.n_len PySem.boot_len (pa_cons (pv 0) pa_nil)) pa_nil))) (pg_name (i := 4) sc_run_end.nd rfl (Or.inl rfl))
     (pss_one (ps_if (PW.pt (pw_or (pt_cmpR op_lt (pe_ix ix_list (pv 0) (pv 4) (fun _ _ => rfl)) (pv 2) (nomark _)) (pw_or1 (pt_cmpR op_gt (pe_ix ix_list (pv 0) (pv 4) (fun _ _ => rfl)) (pv 3) (nomark _)))))
     (pss_one (ps_ret (pv 4)))
     pss_nil)))
     (pss_one (ps_ret (pe_callB call_len_seq (by rfl) T.n_len PySem.boot_len (pa_cons (pv 0) pa_nil))))), ?_⟩)⟩
  · obtain ⟨a, b, k, lo, hi, rfl, _⟩ := h
    rfl
  · obtain ⟨a, b, i, lo, hi, rfl, hB, hi0, hl, k⟩ := h
    refine ⟨_, rfl, _, rfl, a, _, rfl, SqLo hB, _, _, rfl, ⟨(r62 (by omega)).1, (r62 (by omega)).2, (r62 (by rw [vl_length]; omega)).1, (r62 (by rw [vl_length]; omega)).2⟩, for_range (fun j σ H' => H' = H ∧ (∃ v, σ = [some (.ref a), some (.int (i : Int)), some (.int (lo : Int)), some (.int (hi : Int)), v]) ∧ ∀ (m : Nat) c, m < j → (b.drop i)[m]? = some c → Lx.out lo hi c = false) ⟨rfl, ⟨_, rfl⟩, fun m c hm => absurd hm (Nat.not_lt_zero _)⟩ ?_ ?_⟩
    · rintro j σ H' hj ⟨rfl, ⟨v, rfl⟩, inv⟩
      rw [vl_length] at hj
      have hj' : i + j < b.length := by omega
      have hc : b[i + j]? = some b[i + j] := List.getElem?_eq_getElem hj'
      have e0 : (i : Int) + (j : Int) = ((i + j : Nat) : Int) := by omega
      have stop : Lx.out lo hi b[i + j] = true → tRet (tVar 4) { nx := fun _ H' => Q .non H', rt := Q } [some (.ref a), some (.int (i : Int)), some (.int (lo : Int)), some (.int (hi : Int)), some (.int ((i + j : Nat) : Int))] H' := fun e => by
        refine ⟨_, rfl, ?_⟩
        have : Lx.firstAt (Lx.out lo hi) b i = i + j := by
          unfold Lx.firstAt
          rw [Lx.tw_stop (i := j) (b := b[i + j]) inv (by rw [List.getElem?_drop]; exact hc) e]
        rw [this] at k
        exact k
      rw [e0]
      refine ⟨_, rfl, _, rfl, a, _, _, _, rfl, rfl, SqL.of hB, atI_nat (vl_at hc), _, rfl, _, _, rfl, rfl, _, rfl, ?_⟩
      refine ifP (fun e => ?_) (fun e => ?_)
      · exact iteT (stop (by unfold Lx.out; rw [decide_eq_true (show b[i + j].toNat < lo by omega)]; rfl))
      refine ⟨_, rfl, _, rfl, a, _, _, _, rfl, rfl, SqL.of hB, atI_nat (vl_at hc), _, rfl, _, _, rfl, rfl, _, rfl, ?_⟩
      refine ifP (fun e2 => ?_) (fun e2 => ?_)
      · exact stop (by unfold Lx.out; rw [decide_eq_true (show hi < b[i + j].toNat by omega), Bool.or_true])
      refine ⟨rfl, ⟨_, rfl⟩, fun m c hm hmc => ?_⟩
      rcases Nat.lt_succ_iff_lt_or_eq.mp hm with hm | rfl
      · exact inv m c hm hmc
      · rw [List.getElem?_drop, hc] at hmc
        cases hmc
        unfold Lx.out
        rw [decide_eq_false (show ¬ b[i + m].toNat < lo by omega), decide_eq_false (show ¬ hi < b[i + m].toNat by omega)]
        rfl
    · rintro σ H' ⟨rfl, ⟨v, rfl⟩, inv⟩
      rw [vl_length] at inv
      refine ⟨_, rfl, a, _, rfl, SqLo hB, ?_⟩
      have : Lx.firstAt (Lx.out lo hi) b i = b.length := by
        unfold Lx.firstAt
        rw [Lx.tw_all fun m c hmc => inv m c (by have := (List.getElem?_eq_some_iff.mp hmc).1; rw [List.length_drop] at this; omega) hmc, List.length_drop]
        omega
      rw [this, ← vl_length] at k
      exact k
end
end Lw

/-! reading: tokens -/
namespace Lw
open PySem PySem.Spec PyProof.Rows L2
open VasedBase (Bytes PTok Toks)
open Vaseda (Deed Cmd Script Line)
section
variable {P : Program} {w : World} {K : PySem.W.Frag} {mg : Str → Option Value} {base : Heap} {ad : Ad}
theorem sc_past_blanks : FnScope N_past_blanks P_past_blanks (defScope s_past_blanks) := ⟨rfl, rfl, rfl, by decide +kernel, rfl, by decide +kernel, by decide +kernel⟩
def sp_past_blanks : Sp := fun vs H Q _ => ∃ (a : PySem.Addr) (b : Bytes) (k : Nat), vs = [.ref a, .int (k : Int)] ∧ H a = some (.lst (vl b)) ∧ k ≤ b.length ∧ b.length ≤ 20000 ∧
  ∀ k' : Nat, k ≤ k' → k' ≤ b.length → Lx.LX b k' = Lx.LX b k → (∀ c, b[k']? = some c → VasedBase.isBlank c = false ∧ c ≠ 35) → Q (.int (k' : Int)) H
theorem ok_past_blanks (T : Txt K mg ad) : OkD P w K mg base CX0 2 "past_blanks" P_past_blanks sp_past_blanks := by
  obtain ⟨f, fd, hm, F, hb⟩ := T.d_past_blanks
  have G_is_blank : OkD P w K mg base CX0 1 "is_blank" P_is_blank sp_is_blank := ok_is_blank T
  have G_remark_end : OkD P w K mg base CX0 1 "remark_end" P_remark_end sp_remark_end := ok_remark_end T
  refine ⟨f, fd, hm, F.kp, hb, F.ok sc_past_blanks (fun vs H Q E h => ?_) (fun cdv A outer s H vs Q E hr h => ⟨_, (pss_cons (ps_set (i := 2) sc_past_blanks.nd rfl (Or.inl rfl) (pv 1))
     (pss_cons (ps_while PassesOwn.never (PW.pt (pw_and (pt_cmpR op_lt (pv 2) (pe_callB call_len_seq (by rfl) T.n_len PySem.boot_len (pa_cons (pv 0) pa_nil)) (nomark _)) (pw_and1 (PW.pt (pw_or (pt_val (pe_callD (G_is_blank) (hr.mono (by decide)) pass0 (pa_cons (pe_ix ix_list (pv 0) (pv 2) (fun _ _ => rfl)) pa_nil))) (pw_or1 (pt_cmpR op_eq (pe_ix ix_list (pv 0) (pv 2) (fun _ _ => rfl)) pe_int (nomark _))))))))
     (pss_one (ps_if (pt_cmpR op_eq (pe_ix ix_list (pv 0) (pv 2) (fun _ _ => rfl)) pe_int (nomark _))
     (pss_one (ps_set (i := 2) sc_past_blanks.nd rfl (Or.inl rfl) (pe_callD (G_remark_end) (hr.mono (by decide)) pass0 (pa_cons (pv 0) (pa_cons (pv 2) pa_nil)))))
     (pss_one (ps_aug (i := 2) sc_past_blanks.nd rfl (Or.inl rfl) pe_int ip_add)))))
     (pss_one (ps_ret (pv 2))))), ?_⟩)⟩
  · obtain ⟨a, b, k, rfl, _⟩ := h
    rfl
  · obtain ⟨a, b, i, rfl, hB, hi, hl, k⟩ := h
    refine ⟨_, rfl, fun m σ H' => H' = H ∧ ∃ p : Nat, m = b.length - p ∧ σ = [some (.ref a), some (.int (i : Int)), some (.int (p : Int))] ∧ i ≤ p ∧ p ≤ b.length ∧ Lx.LX b p = Lx.LX b i, ⟨_, rfl, i, rfl, rfl, Nat.le_refl _, hi, rfl⟩, ?_⟩
    rintro m σ H' ⟨rfl, p, rfl, rfl, h1, h2, h3⟩
    refine ⟨_, rfl, _, rfl, a, _, rfl, SqLo hB, _, _, rfl, rfl, _, rfl, ?_⟩
    rw [vl_length]
    refine ifP (fun e => ?_) (fun e => ?_)
    · have hp : p < b.length := by omega
      have hc : b[p]? = some b[p] := List.getElem?_eq_getElem hp
      have body : (VasedBase.isBlank b[p] = true ∨ b[p] = 35) → ∀ {D : Ends}, (∀ p' : Nat, p < p' → p' ≤ b.length → Lx.LX b p' = Lx.LX b i → D.nx [some (.ref a), some (.int (i : Int)), some (.int (p' : Int))] H') →
          tIfS (tTest (tOp rEq (tOp (rIxL K) (tVar 0) (tVar 2)) (tC (.int 35)))) (tAsg (tCall sp_remark_end [] E0 (tCons (tVar 0) (tCons (tVar 2) tNil))) (gName 2)) (tAug 2 (tC (.int 1)) (ipI fun i j => i + j)) D [some (.ref a), some (.int (i : Int)), some (.int (p : Int))] H' := by
        intro hbl D hD
        refine ⟨_, rfl, _, rfl, a, _, _, _, rfl, rfl, SqL.of hB, atI_nat (vl_at hc), rfl, _, rfl, ?_⟩
        refine ifP (fun e2 => ?_) (fun e2 => ?_)
        · have e3 := (vbe (d := 35) rfl).mp e2
          refine ⟨_, rfl, _, rfl, a, b, p, rfl, hB, Nat.le_of_lt hp, hl, ?_⟩
          have q1 := Lx.firstAt_le (p := (· == 10)) (Nat.le_of_lt hp)
          have ne : Lx.firstAt (· == 10) b p ≠ p := fun z => by
            have hx : Lx.firstAt (· == 10) b p = p + 1 + ((b.drop (p + 1)).takeWhile (· != 10)).length := by
              unfold Lx.firstAt Lx.tw
              rw [Lx.drop_at hc, e3, List.takeWhile_cons]
              show p + ((b.drop (p + 1)).takeWhile (· != 10)).length.succ = _
              omega
            omega
          refine hD _ (by omega) q1.2 ?_
          rw [Lx.LX_remark (by rw [hc, e3]), h3]
        · have e3 : b[p] ≠ 35 := fun z => e2 ((vbe (d := 35) rfl).mpr z)
          have e4 : VasedBase.isBlank b[p] = true := hbl.resolve_right e3
          refine ⟨_, rfl, _, _, rfl, rfl, ?_⟩
          exact hD (p + 1) (Nat.lt_succ_self _) hp (by rw [Lx.LX_blank hc e4, h3])
      refine ⟨_, rfl, _, rfl, a, _, _, _, rfl, rfl, SqL.of hB, atI_nat (vl_at hc), _, rfl, _, rfl, ?_⟩
      refine ifB (fun e2 => ?_) (fun e2 => ?_)
      · refine iteT ⟨fun σ' H'' => H'' = H' ∧ ∃ p' : Nat, b.length - p' < b.length - p ∧ σ' = [some (.ref a), some (.int (i : Int)), some (.int (p' : Int))] ∧ i ≤ p' ∧ p' ≤ b.length ∧ Lx.LX b p' = Lx.LX b i, ?_, ?_⟩
        · rintro σ' H'' ⟨rfl, p', q1, q2, q3, q4, q5⟩
          exact ⟨_, q1, rfl, p', rfl, q2, q3, q4, q5⟩
        · exact body (.inl e2) fun p' q1 q2 q3 => ⟨rfl, p', by omega, rfl, by omega, q2, q3⟩
      · refine ⟨_, rfl, _, rfl, a, _, _, _, rfl, rfl, SqL.of hB, atI_nat (vl_at hc), rfl, _, rfl, ?_⟩
        refine ifP (fun e3 => ?_) (fun e3 => ?_)
        · refine ⟨fun σ' H'' => H'' = H' ∧ ∃ p' : Nat, b.length - p' < b.length - p ∧ σ' = [some (.ref a), some (.int (i : Int)), some (.int (p' : Int))] ∧ i ≤ p' ∧ p' ≤ b.length ∧ Lx.LX b p' = Lx.LX b i, ?_, ?_⟩
          · rintro σ' H'' ⟨rfl, p', q1, q2, q3, q4, q5⟩
            exact ⟨_, q1, rfl, p', rfl, q2, q3, q4, q5⟩
          · exact body (.inr ((vbe (d := 35) rfl).mp e3)) fun p' q1 q2 q3 => ⟨rfl, p', by omega, rfl, by omega, q2, q3⟩
        · refine ⟨_, rfl, k p h1 h2 h3 fun c hcc => ?_⟩
          rw [hc] at hcc
          cases hcc
          exact ⟨e2, fun z => e3 ((vbe (d := 35) rfl).mpr z)⟩
    · have : p = b.length := by omega
      subst this
      refine ⟨_, rfl, k _ h1 h2 h3 fun c hcc => ?_⟩
      have := (List.getElem?_eq_some_iff.mp hcc).1
      omega
theorem sc_number_of : FnScope N_number_of P_number_of (defScope s_number_of) := ⟨rfl, rfl, rfl, by decide +kernel, rfl, by decide +kernel, by decide +kernel⟩
def sp_number_of : Sp := fun vs H Q _ => ∃ (a : PySem.Addr) (b : Bytes) (i j : Nat), vs = [.ref a, .int (i : Int), .int (j : Int)] ∧ H a = some (.lst (vl b)) ∧ i ≤ j ∧ j ≤ b.length ∧ b.length ≤ 20000 ∧ (∀ c ∈ Lx.cut b i j, VasedBase.isDigit c = true) ∧
  Q (.int (VasedBase.decimal (Lx.cut b i j) : Int)) H
theorem ok_number_of (T : Txt K mg ad) : OkD P w K mg base CX0 1 "number_of" P_number_of sp_number_of := by
  obtain ⟨f, fd, hm, F, hb⟩ := T.d_number_of
  refine ⟨f, fd, hm, F.kp, hb, F.ok sc_number_of (fun vs H Q E h => ?_) (fun cdv A outer s H vs Q E hr h => ⟨_, (pss_cons (ps_set (i := 3) sc_number_of.nd rfl (Or.inl rfl) pe_int)
     (pss_cons (ps_for PassesOwn.never rfl (pi_range2 rfl T.n_range (pa_cons (pv 1) (pa_cons (pv 2) pa_nil))) (pg_name (i := 4) sc_number_of.nd rfl (Or.inl rfl))
     (pss_one (ps_set (i := 3) sc_number_of.nd rfl (Or.inl rfl) (pe_op op_sub (pe_op op_add (pe_op op_mul (pv 3) pe_int) (pe_ix ix_list (pv 0) (pv 4) (fun _ _ => rfl))) pe_int))))
     (pss_one (ps_ret (pv 3))))), ?_⟩)⟩
  · obtain ⟨a, b, i, j, rfl, _⟩ := h
    rfl
  · obtain ⟨a, b, i, j, rfl, hB, hij, hj, hl, dg, k⟩ := h
    refine ⟨_, rfl, _, rfl, _, _, rfl, ⟨(r62 (by omega)).1, (r62 (by omega)).2, (r62 (by omega)).1, (r62 (by omega)).2⟩, for_range (fun m σ H' => H' = H ∧ (∃ v, σ = [some (.ref a), some (.int (i : Int)), some (.int (j : Int)), some (.int (VasedBase.decimal (Lx.cut b i (i + m)) : Int)), v])) ⟨rfl, ⟨_, by
      have : Lx.cut b i (i + 0) = [] := by unfold Lx.cut; rw [Nat.add_zero, Nat.sub_self, List.take_zero]
      rw [this]
      rfl⟩⟩ ?_ ?_⟩
    · rintro m σ H' hm ⟨rfl, ⟨v, rfl⟩⟩
      have hm' : i + m < j := by omega
      have hc : b[i + m]? = some b[i + m] := List.getElem?_eq_getElem (by omega)
      have e0 : (i : Int) + (m : Int) = ((i + m : Nat) : Int) := by omega
      have d9 : VasedBase.isDigit b[i + m] = true := dg _ (by
        unfold Lx.cut
        refine List.mem_of_getElem? (i := m) ?_
        rw [List.getElem?_take, if_pos (by omega), List.getElem?_drop]
        exact hc)
      have d48 : 48 ≤ b[i + m].toNat := (of_decide_eq_true d9).1
      rw [e0]
      refine ⟨_, rfl, _, _, rfl, rfl, .inr ⟨by decide, by decide⟩, _, rfl, _, rfl, a, _, _, _, rfl, rfl, SqL.of hB, atI_nat (vl_at hc), _, _, rfl, rfl, _, _, rfl, rfl, ?_⟩
      refine ⟨rfl, ⟨some (.int ((i + m : Nat) : Int)), ?_⟩⟩
      rw [show i + (m + 1) = (i + m) + 1 from by omega, Lx.cut_snoc (by omega) hc, Lx.decimal_snoc]
      have e1 : (VasedBase.decimal (Lx.cut b i (i + m)) : Int) * 10 + (b[i + m].toNat : Int) - 48 = ((10 * VasedBase.decimal (Lx.cut b i (i + m)) + (b[i + m].toNat - 48) : Nat) : Int) := by omega
      rw [← e1]
      rfl
    · rintro σ H' ⟨rfl, ⟨v, rfl⟩⟩
      refine ⟨_, rfl, ?_⟩
      have : i + ((j : Int) - (i : Int)).toNat = j := by omega
      rw [this]
      exact k

/-! ### an error, a token -/
theorem sc_Fault_init : FnScope N_Fault_init P_Fault_init (defScope s_Fault_init) := ⟨rfl, rfl, rfl, by decide +kernel, rfl, by decide +kernel, by decide +kernel⟩
theorem ok_Fault_init (T : Txt K mg ad) : OkE P w K mg base CX0 1 ad.cFault P_Fault_init (sp_Fault_init ad) := by
  obtain ⟨f, fd, hi, ht, F, hb⟩ := T.d_Fault_init
  refine ⟨f, fd, hi, ht, hb, F.ok sc_Fault_init (fun vs H Q E h => ?_) (fun cdv A outer s H vs Q E hr h => ⟨_, (pss_cons (ps_xf (pv 0) (pv 1) rfl)
     (pss_one (ps_xf (pv 0) (pv 2) rfl))), ?_⟩)⟩
  · obtain ⟨a, c, p, rfl, _⟩ := h
    rfl
  · obtain ⟨a, c, p, rfl, ha, k⟩ := h
    refine ⟨_, rfl, _, rfl, a, ad.cFault, rfl, T.ex, T.nx_code, .inl ⟨ha, fun dx hn ne => ?_⟩⟩
    refine ⟨_, rfl, _, rfl, a, ad.cFault, rfl, T.ex, T.nx_place, .inr ⟨dx, _, upd_same, (upd_ne ne).trans upd_same, by show 1 ≤ 900; decide, ?_⟩⟩
    exact k dx _ hn ne (fun b o hb e => by
      rw [upd_ne (ne_of_none e hn), upd_ne hb, upd_ne (ne_of_none e hn)]
      exact e) ((upd_ne (Ne.symm ne)).trans upd_same) upd_same
theorem sc_Token_init : FnScope N_Token_init P_Token_init (defScope s_Token_init) := ⟨rfl, rfl, rfl, by decide +kernel, rfl, by decide +kernel, by decide +kernel⟩
def sp_Token_init (ad : Ad) : Sp := fun vs H Q _ => ∃ (p dx wd : PySem.Addr) (what place amount : Int), vs = [.ref p, .int what, .int place, .ref wd, .int amount] ∧ H p = some (.ins ad.cToken dx []) ∧
  ∀ H', But p H H' → H' p = some (.ins ad.cToken dx [("what", .int what), ("place", .int place), ("word", .ref wd), ("amount", .int amount)]) → Q .non H'
theorem tokF_put (a b c d : V) : putF "amount" d (putF "word" c (putF "place" b (putF "what" a []))) = ([("what", a), ("place", b), ("word", c), ("amount", d)] : List (Str × V)) := by
  repeat (first | rw [pt0] | rw [pt2 (by decide +kernel)])
theorem ok_Token_init (T : Txt K mg ad) : OkI P w K mg base CX0 1 ad.cToken "Token" P_Token_init (sp_Token_init ad) := by
  obtain ⟨f, fd, M, hm, F, hb⟩ := T.d_Token_init
  refine ⟨f, fd, M, hm, hb, F.ok sc_Token_init (fun vs H Q E h => ?_) (fun cdv A outer s H vs Q E hr h => ⟨_, (pss_cons (ps_fld (pv 0) (pv 1) rfl)
     (pss_cons (ps_fld (pv 0) (pv 2) rfl)
     (pss_cons (ps_fld (pv 0) (pv 3) rfl)
     (pss_one (ps_fld (pv 0) (pv 4) rfl))))), ?_⟩)⟩
  · obtain ⟨p, dx, wd, a, b, c, rfl, _⟩ := h
    rfl
  · obtain ⟨p, dx, wd, a, b, c, rfl, hp, k⟩ := h
    refine ⟨_, rfl, _, rfl, p, _, dx, _, rfl, hp, T.cl_Token, T.na_Token_what, by decide, ?_⟩
    refine ⟨_, rfl, _, rfl, p, _, dx, _, rfl, upd_same, T.cl_Token, T.na_Token_place, by show 1 < 1000; decide, ?_⟩
    refine ⟨_, rfl, _, rfl, p, _, dx, _, rfl, upd_same, T.cl_Token, T.na_Token_word, by show 2 < 1000; decide, ?_⟩
    refine ⟨_, rfl, _, rfl, p, _, dx, _, rfl, upd_same, T.cl_Token, T.na_Token_amount, by show 3 < 1000; decide, ?_⟩
    refine k _ (fun b o hb e => ?_) (upd_same.trans (by rw [tokF_put]))
    rw [upd_ne hb, upd_ne hb, upd_ne hb, upd_ne hb]
    exact e
end
end Lw

/-! reading: the tokens of a script -/
namespace Lw
open PySem PySem.Spec PyProof.Rows L2
open VasedBase (Bytes PTok Toks)
open Vaseda (Deed Cmd Script Line)
section
variable {P : Program} {w : World} {K : PySem.W.Frag} {mg : Str → Option Value} {base : Heap} {ad : Ad}
/-- one token, or fault 2 -/
def sp_tok (ad : Ad) (pre : UInt8 → Prop) : Sp := fun vs H Q E => ∃ (a : PySem.Addr) (b : Bytes) (k : Nat) (c : UInt8), vs = [.ref a, .int (k : Int)] ∧ H a = some (.lst (vl b)) ∧ b[k]? = some c ∧ pre c ∧ b.length ≤ 20000 ∧
  (VasedBase.token (b.drop k) = none → Flt ad H E ⟨2, k⟩) ∧
  (∀ tok n, VasedBase.token (b.drop k) = some (tok, n) → ∀ H' p t, Same H H' → H' p = some (.tup [.ref t, .int ((k + n : Nat) : Int)]) → TokAt ad H' t ⟨k, tok⟩ → Q (.ref p) H')
theorem sc_word_token : FnScope N_word_token P_word_token (defScope s_word_token) := ⟨rfl, rfl, rfl, by decide +kernel, rfl, by decide +kernel, by decide +kernel⟩
theorem ok_word_token (T : Txt K mg ad) : OkD P w K mg base (L2.CX P w) 3 "word_token" P_word_token (sp_tok ad fun c => VasedBase.isLetter c = true) := by
  obtain ⟨f, fd, hm, F, hb⟩ := T.d_word_token
  have G_run_end : OkD P w K mg base CX0 1 "run_end" P_run_end sp_run_end := ok_run_end T
  have G_sort_of_word : OkD P w K mg base CX0 2 "sort_of_word" P_sort_of_word sp_sort_of_word := ok_sort_of_word T
  have G_Token : OkI P w K mg base CX0 1 ad.cToken "Token" P_Token_init (sp_Token_init ad) := ok_Token_init T
  have G_Fault : OkE P w K mg base CX0 1 ad.cFault P_Fault_init (sp_Fault_init ad) := ok_Fault_init T
  refine ⟨f, fd, hm, F.kp, hb, F.okX sc_word_token (fun vs H Q E h => ?_) (fun cdv A outer s H vs Q E hr h => ⟨_, (pss_cons (ps_set (i := 2) sc_word_token.nd rfl (Or.inl rfl) (pe_callD (G_run_end) (hr.mono (by decide)) pass0 (pa_cons (pv 0) (pa_cons (pv 1) (pa_cons pe_int (pa_cons pe_int pa_nil))))))
     (pss_cons (ps_if (pt_cmpR op_gt (pe_op op_sub (pv 2) (pv 1)) pe_int (nomark _))
     (pss_one (ps_raise rfl (takes_of rfl rfl rfl rfl) (pmk_F T rfl G_Fault (hr.mono (by decide)) (pa_cons pe_int (pa_cons (pv 1) pa_nil)))))
     pss_nil)
     (pss_cons (ps_set (i := 3) sc_word_token.nd rfl (Or.inl rfl) (pe_callTy call_tuple_of (by rfl) T.n_tuple (by decide +kernel) (pa_cons (pe_slice sl_list (pv 0) (po_some (pv 1)) (po_some (pv 2))) pa_nil)))
     (pss_one (ps_ret (pe_tup (pa_cons (pe_makeD (G_Token) (hr.mono (by decide)) pass0 (pa_cons (pe_callD (G_sort_of_word) (hr.mono (by decide)) pass0 (pa_cons (pv 3) pa_nil)) (pa_cons (pv 1) (pa_cons (pv 3) (pa_cons pe_int pa_nil))))) (pa_cons (pv 2) pa_nil)))))))), ?_⟩)⟩
  · obtain ⟨a, b, k, c, rfl, _⟩ := h
    rfl
  · obtain ⟨a, b, i, c, rfl, hB, hc, pc, hl, kn, ks⟩ := h
    have hi := (List.getElem?_eq_some_iff.mp hc).1
    have tk := Lx.token_word hc pc
    have fl := Lx.firstAt_le (p := Lx.out 97 122) (Nat.le_of_lt hi)
    refine ⟨_, rfl, _, rfl, a, b, i, 97, 122, rfl, hB, Nat.le_of_lt hi, hl, ?_⟩
    refine ⟨_, rfl, _, rfl, _, _, rfl, rfl, _, _, rfl, rfl, _, rfl, ?_⟩
    generalize he : Lx.firstAt (Lx.out 97 122) b i = e at *
    refine ifP (fun e1 => ?_) (fun e1 => ?_)
    · rw [if_pos (by omega)] at tk
      exact ⟨_, rfl, by show 2 ≤ 1000; decide, fun x nx => ⟨x, 2, (i : Int), rfl, upd_same, fun d H' nd ne bt q1 q2 => ⟨rfl, d, _, q1, q2, ask_fault (c := 2) (p := i) (kn tk) x nx (fun _ => True) d H' nd ne bt⟩⟩⟩
    · rw [if_neg (by omega)] at tk
      refine ⟨_, rfl, _, rfl, _, rfl, _, rfl, _, rfl, a, _, rfl, SqL.of hB, fun p hp => ⟨p, _, rfl, .inl ⟨SqL.of upd_same, fun l hl2 => ?_⟩⟩⟩
      rw [vl_cut fl.2] at *
      have s1 : Same H (upd (upd H p (.lst (vl (Lx.cut b i e)))) l (.tup (vl (Lx.cut b i e)))) := (Same.new hp).trans (Same.new hl2)
      have wl : (Lx.cut b i e).length ≤ 8 := by rw [Lx.cut_length fl.2]; omega
      refine ⟨_, rfl, l, _, rfl, upd_same, by omega, _, rfl, _, rfl, ?_⟩
      intro x dx nx nd ne
      refine ⟨x, dx, l, _, _, _, rfl, upd_same, fun H2 bt e2 => ⟨rfl, ?_⟩⟩
      have s2 := mk_same nx nd bt
      refine ⟨_, rfl, by show 2 ≤ sizeLine; decide, fun q hq => ?_⟩
      refine ks _ _ tk _ q x ((s1.trans s2).trans (Same.new hq)) (upd_same.trans ?_) ⟨dx, l, ?_, ?_⟩
      · rw [show i + (e - i) = e from by omega]
      · exact (Same.new hq) _ _ e2
      · exact (Same.new hq) _ _ (s2 _ _ upd_same)
theorem sc_number_token : FnScope N_number_token P_number_token (defScope s_number_token) := ⟨rfl, rfl, rfl, by decide +kernel, rfl, by decide +kernel, by decide +kernel⟩
theorem ok_number_token (T : Txt K mg ad) : OkD P w K mg base (L2.CX P w) 3 "number_token" P_number_token (sp_tok ad fun c => VasedBase.isLetter c = false ∧ VasedBase.isDigit c = true) := by
  obtain ⟨f, fd, hm, F, hb⟩ := T.d_number_token
  have G_run_end : OkD P w K mg base CX0 1 "run_end" P_run_end sp_run_end := ok_run_end T
  have G_number_of : OkD P w K mg base CX0 1 "number_of" P_number_of sp_number_of := ok_number_of T
  have G_Token : OkI P w K mg base CX0 1 ad.cToken "Token" P_Token_init (sp_Token_init ad) := ok_Token_init T
  have G_Fault : OkE P w K mg base CX0 1 ad.cFault P_Fault_init (sp_Fault_init ad) := ok_Fault_init T
  refine ⟨f, fd, hm, F.kp, hb, F.okX sc_number_token (fun vs H Q E h => ?_) (fun cdv A outer s H vs Q E hr h => ⟨_, (pss_cons (ps_set (i := 2) sc_number_token.nd rfl (Or.inl rfl) (pe_callD (G_run_end) (hr.mono (by decide)) pass0 (pa_cons (pv 0) (pa_cons (pv 1) (pa_cons pe_int (pa_cons pe_int pa_nil))))))
     (pss_cons (ps_if (pt_cmpR op_gt (pe_op op_sub (pv 2) (pv 1)) pe_int (nomark _))
     (pss_one (ps_raise rfl (takes_of rfl rfl rfl rfl) (pmk_F T rfl G_Fault (hr.mono (by decide)) (pa_cons pe_int (pa_cons (pv 1) pa_nil)))))
     pss_nil)
     (pss_cons (ps_if (PW.pt (pw_and (pt_cmpR op_eq (pe_ix ix_list (pv 0) (pv 1) (fun _ _ => rfl)) pe_int (nomark _)) (pw_and1 (pt_cmpR op_gt (pe_op op_sub (pv 2) (pv 1)) pe_int (nomark _)))))
     (pss_one (ps_raise rfl (takes_of rfl rfl rfl rfl) (pmk_F T rfl G_Fault (hr.mono (by decide)) (pa_cons pe_int (pa_cons (pv 1) pa_nil)))))
     pss_nil)
     (pss_cons (ps_set (i := 3) sc_number_token.nd rfl (Or.inl rfl) (pe_callD (G_number_of) (hr.mono (by decide)) pass0 (pa_cons (pv 0) (pa_cons (pv 1) (pa_cons (pv 2) pa_nil)))))
     (pss_cons (ps_if (pt_cmpR op_gt (pv 3) pe_int (nomark _))
     (pss_one (ps_raise rfl (takes_of rfl rfl rfl rfl) (pmk_F T rfl G_Fault (hr.mono (by decide)) (pa_cons pe_int (pa_cons (pv 1) pa_nil)))))
     pss_nil)
     (pss_one (ps_ret (pe_tup (pa_cons (pe_makeD (G_Token) (hr.mono (by decide)) pass0 (pa_cons (g_int 22 T.g_NUMBER) (pa_cons (pv 1) (pa_cons (pe_tup pa_nil) (pa_cons (pv 3) pa_nil))))) (pa_cons (pv 2) pa_nil)))))))))), ?_⟩)⟩
  · obtain ⟨a, b, k, c, rfl, _⟩ := h
    rfl
  · obtain ⟨a, b, i, c, rfl, hB, hc, ⟨pl, pd⟩, hl, kn, ks⟩ := h
    have hi := (List.getElem?_eq_some_iff.mp hc).1
    have tk := Lx.token_number hc pl pd
    have dg := Lx.cut_digits b i
    have fl := Lx.firstAt_le (p := Lx.out 48 57) (Nat.le_of_lt hi)
    have raise : VasedBase.token (b.drop i) = none → 2 ≤ 1000 ∧ ∀ x, H x = none → sp_Fault_init ad (.ref x :: ([.int 2, .int (i : Int)] ++ [])) (upd H x (exo x ad.cFault none)) (fun v H2 => v = .non ∧ ∃ (d : PySem.Addr) (fs : List (Str × V)), H2 x = some (exo x ad.cFault (some d)) ∧ H2 d = some (exd d fs) ∧ H d = none ∧ E (.ref ad.cFault) (some d) (upd (L2.del H2 x) d (.xd fs))) (fun _ _ _ => False) := fun tn =>
      ⟨by decide, fun x nx => ⟨x, 2, (i : Int), rfl, upd_same, fun d H' nd ne bt q1 q2 => ⟨rfl, d, _, q1, q2, ask_fault (c := 2) (p := i) (kn tn) x nx (fun _ => True) d H' nd ne bt⟩⟩⟩
    refine ⟨_, rfl, _, rfl, a, b, i, 48, 57, rfl, hB, Nat.le_of_lt hi, hl, ?_⟩
    refine ⟨_, rfl, _, rfl, _, _, rfl, rfl, _, _, rfl, rfl, _, rfl, ?_⟩
    generalize he : Lx.firstAt (Lx.out 48 57) b i = e at *
    refine ifP (fun e1 => ?_) (fun e1 => ?_)
    · exact ⟨_, rfl, raise (by rw [tk, if_pos (.inl (by omega))])⟩
    refine ⟨_, rfl, _, rfl, a, _, _, _, rfl, rfl, SqL.of hB, atI_nat (vl_at hc), rfl, _, rfl, ?_⟩
    have rest : ¬ (1 < e - i ∧ c = 48) → tSeq (tAsg (tCall sp_number_of [] E0 (tCons (tVar 0) (tCons (tVar 1) (tCons (tVar 2) tNil)))) (gName 3)) (tSeq (tIfS (tTest (tOp (rI0 fun i j => .bl (decide (j < i))) (tVar 3) (tC (.int 1000000000)))) (fun _ σ H => tMkO ad.cFault (sp_Fault_init ad) [] (tCons (tC (.int 2)) (tCons (tVar 1) tNil)) σ H fun cls d H' => E cls d H') tNext)
        (tRet (tTup (tCons (tMake ad.cToken (sp_Token_init ad) [] E0 (tCons (tC (.int 22)) (tCons (tVar 1) (tCons (tTup tNil) (tCons (tVar 3) tNil))))) (tCons (tVar 2) tNil))))) { nx := fun _ H' => Q .non H', rt := Q } [some (.ref a), some (.int (i : Int)), some (.int (e : Int)), none] H := fun n1 => by
      refine ⟨_, rfl, _, rfl, _, rfl, a, b, i, e, rfl, hB, fl.1, fl.2, hl, dg, ?_⟩
      refine ⟨_, rfl, _, _, rfl, rfl, _, rfl, ?_⟩
      refine ifP (fun e3 => ?_) (fun e3 => ?_)
      · exact ⟨_, rfl, raise (by rw [tk, if_pos (.inr (.inr (by omega)))])⟩
      rw [if_neg (by
        rintro (z | z | z)
        · omega
        · exact n1 z
        · omega)] at tk
      refine ⟨_, rfl, by show 0 ≤ sizeLine; decide, fun l hl2 => ⟨_, rfl, ?_⟩⟩
      intro x dx nx nd ne
      refine ⟨x, dx, l, _, _, _, rfl, upd_same, fun H2 bt e2 => ⟨rfl, ?_⟩⟩
      have s1 : Same H (upd H l (.tup [])) := Same.new hl2
      have s2 := mk_same nx nd bt
      refine ⟨_, rfl, by show 2 ≤ sizeLine; decide, fun q hq => ?_⟩
      refine ks _ _ tk _ q x ((s1.trans s2).trans (Same.new hq)) (upd_same.trans ?_) ⟨dx, l, ?_, ?_⟩
      · rw [show i + (e - i) = e from by omega]
      · exact (Same.new hq) _ _ e2
      · exact (Same.new hq) _ _ (s2 _ _ upd_same)
    refine ifP (fun e2 => ?_) (fun e2 => ?_)
    · refine ⟨_, rfl, _, rfl, _, _, rfl, rfl, _, _, rfl, rfl, _, rfl, ?_⟩
      have c48 := (vbe (d := 48) rfl).mp e2
      refine ifP (fun e3 => ?_) (fun e3 => ?_)
      · exact ⟨_, rfl, raise (by rw [tk, if_pos (.inr (.inl ⟨by omega, c48⟩))])⟩
      · exact rest fun z => by omega
    · exact rest fun z => e2 ((vbe (d := 48) rfl).mpr z.2)
theorem sc_token_at : FnScope N_token_at P_token_at (defScope s_token_at) := ⟨rfl, rfl, rfl, by decide +kernel, rfl, by decide +kernel, by decide +kernel⟩
theorem ok_token_at (T : Txt K mg ad) : OkD P w K mg base (L2.CX P w) 4 "token_at" P_token_at (sp_tok ad fun _ => True) := by
  obtain ⟨f, fd, hm, F, hb⟩ := T.d_token_at
  have G_is_letter : OkD P w K mg base CX0 1 "is_letter" P_is_letter sp_is_letter := ok_is_letter T
  have G_is_digit : OkD P w K mg base CX0 1 "is_digit" P_is_digit sp_is_digit := ok_is_digit T
  have G_word_token : OkD P w K mg base (L2.CX P w) 3 "word_token" P_word_token (sp_tok ad fun c => VasedBase.isLetter c = true) := ok_word_token T
  have G_number_token : OkD P w K mg base (L2.CX P w) 3 "number_token" P_number_token (sp_tok ad fun c => VasedBase.isLetter c = false ∧ VasedBase.isDigit c = true) := ok_number_token T
  have G_Token : OkI P w K mg base CX0 1 ad.cToken "Token" P_Token_init (sp_Token_init ad) := ok_Token_init T
  have G_Fault : OkE P w K mg base CX0 1 ad.cFault P_Fault_init (sp_Fault_init ad) := ok_Fault_init T
  refine ⟨f, fd, hm, F.kp, hb, F.okX sc_token_at (fun vs H Q E h => ?_) (fun cdv A outer s H vs Q E hr h => ⟨_, (pss_cons (ps_set (i := 2) sc_token_at.nd rfl (Or.inl rfl) (pe_ix ix_list (pv 0) (pv 1) (fun _ _ => rfl)))
     (pss_cons (ps_if (pt_val (pe_callD (G_is_letter) (hr.mono (by decide)) pass0 (pa_cons (pv 2) pa_nil)))
     (pss_one (ps_ret (pe_callD (G_word_token) (hr.mono (by decide)) (passX (takes_of rfl rfl rfl rfl)) (pa_cons (pv 0) (pa_cons (pv 1) pa_nil)))))
     pss_nil)
     (pss_cons (ps_if (pt_val (pe_callD (G_is_digit) (hr.mono (by decide)) pass0 (pa_cons (pv 2) pa_nil)))
     (pss_one (ps_ret (pe_callD (G_number_token) (hr.mono (by decide)) (passX (takes_of rfl rfl rfl rfl)) (pa_cons (pv 0) (pa_cons (pv 1) pa_nil)))))
     pss_nil)
     (pss_cons (ps_if (pt_cmpR op_eq (pv 2) pe_int (nomark _))
     (pss_one (ps_ret (pe_tup (pa_cons (pe_makeD (G_Token) (hr.mono (by decide)) pass0 (pa_cons (g_int 23 T.g_SEMICOLON) (pa_cons (pv 1) (pa_cons (pe_tup pa_nil) (pa_cons pe_int pa_nil))))) (pa_cons (pe_op op_add (pv 1) pe_int) pa_nil)))))
     pss_nil)
     (pss_one (ps_raise rfl (takes_of rfl rfl rfl rfl) (pmk_F T rfl G_Fault (hr.mono (by decide)) (pa_cons pe_int (pa_cons (pv 1) pa_nil))))))))), ?_⟩)⟩
  · obtain ⟨a, b, k, c, rfl, _⟩ := h
    rfl
  · obtain ⟨a, b, i, c, rfl, hB, hc, _, hl, kn, ks⟩ := h
    refine ⟨_, rfl, _, rfl, a, _, _, _, rfl, rfl, SqL.of hB, atI_nat (vl_at hc), ?_⟩
    refine ⟨_, rfl, c, rfl, _, rfl, ?_⟩
    refine ifB (fun e1 => ?_) (fun e1 => ?_)
    · exact ⟨_, rfl, _, rfl, a, b, i, c, rfl, hB, hc, e1, hl, kn, ks⟩
    refine ⟨_, rfl, c, rfl, _, rfl, ?_⟩
    refine ifB (fun e2 => ?_) (fun e2 => ?_)
    · exact ⟨_, rfl, _, rfl, a, b, i, c, rfl, hB, hc, ⟨e1, e2⟩, hl, kn, ks⟩
    refine ⟨_, rfl, rfl, _, rfl, ?_⟩
    refine ifP (fun e3 => ?_) (fun e3 => ?_)
    · have c59 := (vbe (d := 59) rfl).mp e3
      have tk := Lx.token_sign (by rw [hc, c59] : b[i]? = some 59)
      refine ⟨_, rfl, by show 0 ≤ sizeLine; decide, fun l hl2 => ?_⟩
      intro x dx nx nd ne
      refine ⟨x, dx, l, _, _, _, rfl, upd_same, fun H2 bt e2 => ⟨rfl, ?_⟩⟩
      have s1 : Same H (upd H l (.tup [])) := Same.new hl2
      have s2 := mk_same nx nd bt
      refine ⟨_, rfl, _, _, rfl, rfl, by show 2 ≤ sizeLine; decide, fun q hq => ?_⟩
      exact ks _ _ tk _ q x ((s1.trans s2).trans (Same.new hq)) upd_same ⟨dx, l, (Same.new hq) _ _ e2, (Same.new hq) _ _ (s2 _ _ upd_same)⟩
    · have tk := Lx.token_none hc e1 e2 fun z => e3 ((vbe (d := 59) rfl).mpr z)
      exact ⟨_, rfl, by show 2 ≤ 1000; decide, fun x nx => ⟨x, 2, (i : Int), rfl, upd_same, fun d H' nd ne bt q1 q2 => ⟨rfl, d, _, q1, q2, ask_fault (c := 2) (p := i) (kn tk) x nx (fun _ => True) d H' nd ne bt⟩⟩⟩
theorem sc_read_tokens : FnScope N_read_tokens P_read_tokens (defScope s_read_tokens) := ⟨rfl, rfl, rfl, by decide +kernel, rfl, by decide +kernel, by decide +kernel⟩
def sp_read_tokens (ad : Ad) : Sp := fun vs H Q E => ∃ (a : PySem.Addr) (b : Bytes), vs = [.ref a] ∧ H a = some (.lst (vl b)) ∧ b.length ≤ 20000 ∧ (∀ f, Lx.LX b 0 = .error f → Flt ad H E f) ∧
  (∀ l, Lx.LX b 0 = .ok l → ∀ H' p, Same H H' → ToksAt ad H' p l → Q (.ref p) H')
theorem ok_read_tokens (T : Txt K mg ad) : OkD P w K mg base (L2.CX P w) 5 "read_tokens" P_read_tokens (sp_read_tokens ad) := by
  obtain ⟨f, fd, hm, F, hb⟩ := T.d_read_tokens
  have G_past_blanks : OkD P w K mg base CX0 2 "past_blanks" P_past_blanks sp_past_blanks := ok_past_blanks T
  have G_token_at : OkD P w K mg base (L2.CX P w) 4 "token_at" P_token_at (sp_tok ad fun _ => True) := ok_token_at T
  have G_Token : OkI P w K mg base CX0 1 ad.cToken "Token" P_Token_init (sp_Token_init ad) := ok_Token_init T
  refine ⟨f, fd, hm, F.kp, hb, F.okX sc_read_tokens (fun vs H Q E h => ?_) (fun cdv A outer s H vs Q E hr h => ⟨_, (pss_cons (ps_set (i := 1) sc_read_tokens.nd rfl (Or.inl rfl) (pe_lst pa_nil))
     (pss_cons (ps_set (i := 2) sc_read_tokens.nd rfl (Or.inl rfl) (pe_callD (G_past_blanks) (hr.mono (by decide)) pass0 (pa_cons (pv 0) (pa_cons pe_int pa_nil))))
     (pss_cons (ps_while (passes_of rfl) (pt_cmpR op_lt (pv 2) (pe_callB call_len_seq (by rfl) T.n_len PySem.boot_len (pa_cons (pv 0) pa_nil)) (nomark _))
     (pss_cons (ps_asg (pe_callD (G_token_at) (hr.mono (by decide)) (passX (takes_of rfl rfl rfl rfl)) (pa_cons (pv 0) (pa_cons (pv 2) pa_nil))) (pg_tup (by rfl) (pgs_cons (pg_name (i := 3) sc_read_tokens.nd rfl (Or.inl rfl)) (pgs_cons (pg_name (i := 4) sc_read_tokens.nd rfl (Or.inl rfl)) pgs_nil))))
     (pss_cons (ps_expr (pe_bm PySem.F.plainAttrs_list PySem.F.slot_list_append PySem.F.type_list_append mt_append (pv 1) (pa_cons (pv 3) pa_nil)))
     (pss_one (ps_set (i := 2) sc_read_tokens.nd rfl (Or.inl rfl) (pe_callD (G_past_blanks) (hr.mono (by decide)) pass0 (pa_cons (pv 0) (pa_cons (pv 4) pa_nil))))))))
     (pss_cons (ps_expr (pe_bm PySem.F.plainAttrs_list PySem.F.slot_list_append PySem.F.type_list_append mt_append (pv 1) (pa_cons (pe_makeD (G_Token) (hr.mono (by decide)) pass0 (pa_cons (g_int 24 T.g_END) (pa_cons (pe_callB call_len_seq (by rfl) T.n_len PySem.boot_len (pa_cons (pv 0) pa_nil)) (pa_cons (pe_tup pa_nil) (pa_cons pe_int pa_nil))))) pa_nil)))
     (pss_one (ps_ret (pv 1))))))), ?_⟩)⟩
  · obtain ⟨a, b, rfl, _⟩ := h
    rfl
  · obtain ⟨a, b, rfl, hB, hl, kf, kok⟩ := h
    refine ⟨by show 0 ≤ sizeLine; decide, fun l nl => ?_⟩
    have s0 : Same H (upd H l (.lst [])) := Same.new nl
    refine ⟨_, rfl, a, b, 0, rfl, s0 _ _ hB, Nat.zero_le _, hl, fun k0 _ k1 k2 k3 => ?_⟩
    refine ⟨fun m σ H' => ∃ (p : Nat) (as : List PySem.Addr) (toks : Toks) (v1 v2 : Option V), m = b.length - p ∧ σ = [some (.ref a), some (.ref l), some (.int (p : Int)), v1, v2] ∧ Same H H' ∧ H' l = some (.lst (as.map V.ref)) ∧ Paired (TokAt ad H') as toks ∧ toks.length ≤ p ∧ p ≤ b.length ∧
      Lx.LX b 0 = (Lx.LX b p).map (fun r => toks ++ r) ∧ (∀ c, b[p]? = some c → VasedBase.isBlank c = false ∧ c ≠ 35), ⟨_, k0, [], [], none, none, rfl, rfl, s0, upd_same, .nil, Nat.zero_le _, k1, ?_, k3⟩, ?_⟩
    · rw [k2]
      cases Lx.LX b 0 <;> rfl
    · rintro m σ H' ⟨p, as, toks, v1, v2, rfl, rfl, s1, hL, hT, h1, h2, h3, h4⟩
      refine ⟨_, rfl, _, rfl, a, _, rfl, SqLo (s1 _ _ hB), _, _, rfl, rfl, _, rfl, ?_⟩
      rw [vl_length]
      have ln : as.length = toks.length := Paired.length hT
      refine ifP (fun e => ?_) (fun e => ?_)
      · have hp : p < b.length := by omega
        have hc : b[p]? = some b[p] := List.getElem?_eq_getElem hp
        obtain ⟨n1, n2⟩ := h4 _ hc
        have tx := Lx.LX_token hc n1 n2
        refine ⟨fun σ' H'' => ∃ (p' : Nat) (as : List PySem.Addr) (toks : Toks) (v1 v2 : Option V), b.length - p' < b.length - p ∧ σ' = [some (.ref a), some (.ref l), some (.int (p' : Int)), v1, v2] ∧ Same H H'' ∧ H'' l = some (.lst (as.map V.ref)) ∧ Paired (TokAt ad H'') as toks ∧ toks.length ≤ p' ∧ p' ≤ b.length ∧
          Lx.LX b 0 = (Lx.LX b p').map (fun r => toks ++ r) ∧ (∀ c, b[p']? = some c → VasedBase.isBlank c = false ∧ c ≠ 35), ?_, ?_⟩
        · rintro σ' H'' ⟨p', as, toks, v1, v2, q1, q⟩
          exact ⟨_, q1, p', as, toks, v1, v2, rfl, q⟩
        refine ⟨_, rfl, _, rfl, a, b, p, b[p], rfl, s1 _ _ hB, hc, trivial, hl, fun tn => ?_, fun tok n tn H2 q t s2 e2 ht => ?_⟩
        · rw [tn] at tx
          exact (kf ⟨2, p⟩ (by rw [h3, tx]; rfl)).mono s1
        · rw [tn] at tx
          dsimp only at tx
          have tp := Lx.token_pos tn
          rw [List.length_drop] at tp
          have hL2 := s2 _ _ hL
          refine ⟨q, _, rfl, SqT.of e2, rfl, .ref t, _, rfl, .int ((p + n : Nat) : Int), _, rfl, rfl, ?_⟩
          refine ⟨_, rfl, tyL hL2, _, rfl, l, _, _, rfl, rfl, hL2, by rw [List.length_map]; exact smallL (by omega), ?_⟩
          have A := Apart.lst hL2
          have s3 : Same H (upd H2 l (.lst (as.map V.ref ++ [.ref t]))) := Same.mut (s1.trans s2) nl
          refine ⟨_, rfl, _, rfl, a, b, p + n, rfl, s3 _ _ hB, by omega, hl, fun p' g1 g2 g3 g4 => ?_⟩
          refine ⟨p', as ++ [t], toks ++ [⟨p, tok⟩], _, _, by omega, rfl, s3, upd_same.trans ?_, paired_app (F := TokAt ad (upd H2 l (.lst (as.map V.ref ++ [.ref t])))) (.cons (ht.but A But.upd) .nil) (Paired.mapP hT fun _ _ z => (z.same s2).but A But.upd), ?_, g2, ?_, g4⟩
          · rw [List.map_append]
            rfl
          · rw [List.length_append]
            show toks.length + 1 ≤ p'
            omega
          · rw [h3, tx, g3]
            cases Lx.LX b (p + n) with
            | error f => rfl
            | ok r =>
              show Except.ok (toks ++ (⟨p, tok⟩ :: r)) = Except.ok ((toks ++ [⟨p, tok⟩]) ++ r)
              rw [List.append_assoc]
              rfl
      · have hp : p = b.length := by omega
        subst hp
        have s1B := s1 _ _ hB
        refine ⟨_, rfl, tyL hL, _, rfl, a, _, rfl, SqLo s1B, by show 0 ≤ sizeLine; decide, fun wd hw => ?_⟩
        intro x dx nx nd ne
        refine ⟨x, dx, wd, _, _, _, rfl, upd_same, fun H2 bt e2 => ⟨rfl, ?_⟩⟩
        have s2 : Same H' H2 := (Same.new hw).trans (mk_same nx nd bt)
        have hL2 := s2 _ _ hL
        have A := Apart.lst hL2
        refine ⟨l, _, _, rfl, rfl, hL2, by rw [List.length_map]; exact smallL (by omega), ?_⟩
        have s3 : Same H (upd H2 l (.lst (as.map V.ref ++ [.ref x]))) := Same.mut (s1.trans s2) nl
        have ht : TokAt ad H2 x ⟨b.length, .last⟩ := ⟨dx, wd, e2.trans (by rw [vl_length]; rfl), mk_same nx nd bt _ _ upd_same⟩
        refine ⟨_, rfl, kok (toks ++ [⟨b.length, .last⟩]) ?_ _ l s3 ⟨as ++ [x], upd_same.trans ?_, paired_app (F := TokAt ad (upd H2 l (.lst (as.map V.ref ++ [.ref x])))) (.cons (ht.but A But.upd) .nil) (Paired.mapP hT fun _ _ z => (z.same s2).but A But.upd)⟩⟩
        · rw [h3, Lx.LX_end (Nat.le_refl _)]
          rfl
        · rw [List.map_append]
          rfl
end
end Lw

/-! grammar -/
namespace Lw
open PySem PySem.Spec PyProof.Rows L2
open VasedBase (Bytes PTok Toks)
open Vaseda (Deed Cmd Script Line)

/-! ### the reader -/
def rdF (q : PySem.Addr) (i : Nat) : List (Str × V) := [("tokens", .ref q), ("read", .int (i : Int))]
/-- at r a reader of the tokens at q, of which l are left -/
def RS (ad : Ad) (H : Hp) (r q : PySem.Addr) (l : Toks) : Prop := ∃ dx toks i, H r = some (.ins ad.cReader dx (rdF q i)) ∧ ToksAt ad H q toks ∧ toks.drop i = l
theorem rdF_now {q : PySem.Addr} {i : Nat} : (rdF q i).lookup ("now" : Str) = none := (lk2 (by decide +kernel)).trans ((lk2 (by decide +kernel)).trans rfl)
theorem rdF_take {q : PySem.Addr} {i : Nat} : (rdF q i).lookup ("take" : Str) = none := (lk2 (by decide +kernel)).trans ((lk2 (by decide +kernel)).trans rfl)
section
variable {ad : Ad} {H H' : Hp} {r q d : PySem.Addr} {l : Toks} {E : XK} {f : VasedBase.Fault}
theorem RS.same (s : Same H H') (h : RS ad H r q l) : RS ad H' r q l := let ⟨dx, toks, i, e, t, x⟩ := h; ⟨dx, toks, i, s _ _ e, t.same s, x⟩
theorem RS.apart (h : RS ad H r q l) : Apart H r := let ⟨_, _, _, e, _, _⟩ := h; Apart.insK e (by decide +kernel) (by decide +kernel)
/-- the reader alone may have changed -/
def FltB (ad : Ad) (r : PySem.Addr) (H : Hp) (E : XK) (f : VasedBase.Fault) : Prop := ∀ d H', But r H H' → H' d = some (faultD (f.code : Int) (f.place : Int)) → E (.ref ad.cFault) (some d) H'
theorem FltB.flt (k : FltB ad r H E f) : Flt ad H E f := fun d H' s e => k d H' (But.of s) e
theorem FltB.mono (b : But r H H') (k : FltB ad r H E f) : FltB ad r H' E f := fun d H2 b2 e => k d H2 (b.trans b2) e
theorem Flt.toB {H0 : Hp} (s : Same H0 H) (n : H0 r = none) (k : Flt ad H0 E f) : FltB ad r H E f := fun d H2 b e => k d H2 (Same.but s b n) e
def sp_Reader_now (ad : Ad) : Sp := fun vs H Q _ => ∃ (r q : PySem.Addr) (t : PTok) (m : Toks), vs = [.ref r] ∧ RS ad H r q (t :: m) ∧ ∀ a, TokAt ad H a t → Q (.ref a) H
def sp_Reader_take (ad : Ad) : Sp := fun vs H Q _ => ∃ (r q : PySem.Addr) (t : PTok) (m : Toks), vs = [.ref r] ∧ RS ad H r q (t :: m) ∧ ∀ H', But r H H' → RS ad H' r q m → Q .non H'
noncomputable def RS.dx (h : RS ad H r q l) : PySem.Addr := Classical.choose h
theorem RS.ix (h : RS ad H r q l) : ∃ i, H r = some (.ins ad.cReader h.dx (rdF q i)) := let ⟨_, i, e, _⟩ := Classical.choose_spec h; ⟨i, e⟩
noncomputable def RS.i (h : RS ad H r q l) : Nat := Classical.choose h.ix
theorem RS.ins (h : RS ad H r q l) : H r = some (.ins ad.cReader h.dx (rdF q h.i)) := Classical.choose_spec h.ix
/-- what a reading def promises: its fault, or its value and what is left -/
def Pr {α : Type} (ad : Ad) (r q : PySem.Addr) (H : Hp) (E : XK) (G : α → Hp → Prop) (res : Except VasedBase.Fault (α × Toks)) : Prop :=
  (∀ f, res = .error f → FltB ad r H E f) ∧ (∀ x m, res = .ok (x, m) → ∀ H', But r H H' → RS ad H' r q m → G x H')
theorem Pr.more {α : Type} {G : α → Hp → Prop} {res : Except VasedBase.Fault (α × Toks)} (b : But r H H') (k : Pr ad r q H E G res) : Pr ad r q H' E G res := ⟨fun f h => (k.1 f h).mono b, fun x m h H2 b2 rs => k.2 x m h H2 (b.trans b2) rs⟩
end
section
variable {P : Program} {w : World} {K : PySem.W.Frag} {mg : Str → Option Value} {base : Heap} {ad : Ad}
theorem sc_Reader_init : FnScope N_Reader_init P_Reader_init (defScope s_Reader_init) := ⟨rfl, rfl, rfl, by decide +kernel, rfl, by decide +kernel, by decide +kernel⟩
def sp_Reader_init (ad : Ad) : Sp := fun vs H Q _ => ∃ (p dx q : PySem.Addr), vs = [.ref p, .ref q] ∧ H p = some (.ins ad.cReader dx []) ∧ ∀ H', But p H H' → H' p = some (.ins ad.cReader dx (rdF q 0)) → Q .non H'
theorem ok_Reader_init (T : Txt K mg ad) : OkI P w K mg base CX0 1 ad.cReader "Reader" P_Reader_init (sp_Reader_init ad) := by
  obtain ⟨f, fd, M, hm, F, hb⟩ := T.d_Reader_init
  refine ⟨f, fd, M, hm, hb, F.ok sc_Reader_init (fun vs H Q E h => ?_) (fun cdv A outer s H vs Q E hr h => ⟨_, (pss_cons (ps_fld (pv 0) (pv 1) rfl)
     (pss_one (ps_fld (pv 0) pe_int rfl))), ?_⟩)⟩
  · obtain ⟨p, dx, q, rfl, _⟩ := h
    rfl
  · obtain ⟨p, dx, q, rfl, hp, k⟩ := h
    refine ⟨_, rfl, _, rfl, p, _, dx, _, rfl, hp, T.cl_Reader, T.na_Reader_tokens, by decide, ?_⟩
    refine ⟨_, rfl, p, _, dx, _, rfl, upd_same, T.cl_Reader, T.na_Reader_read, by show 1 < 1000; decide, ?_⟩
    refine k _ (fun b o hb e => ?_) (upd_same.trans ?_)
    · rw [upd_ne hb, upd_ne hb]
      exact e
    · rw [pt0, pt2 (by decide +kernel), pt0]
      rfl
theorem sc_Reader_now : FnScope N_Reader_now P_Reader_now (defScope s_Reader_now) := ⟨rfl, rfl, rfl, by decide +kernel, rfl, by decide +kernel, by decide +kernel⟩
theorem ok_Reader_now (T : Txt K mg ad) : OkM P w K mg base CX0 1 ad.cReader "now" P_Reader_now (sp_Reader_now ad) := by
  obtain ⟨f, fd, M, F, hb⟩ := T.d_Reader_now
  refine ⟨f, fd, M, hb, F.ok sc_Reader_now (fun vs H Q E h => ?_) (fun cdv A outer s H vs Q E hr h => ⟨_, (pss_one (ps_ret (pe_ix ix_list (pe_fld (pv 0) rfl) (pe_fld (pv 0) rfl) (fun _ _ => rfl)))), ?_⟩)⟩
  · obtain ⟨r, q, t, m, rfl, _⟩ := h
    rfl
  · obtain ⟨r, q, t, m, rfl, ⟨dx, toks, i, e, ⟨as, eq, rr⟩, hd⟩, k⟩ := h
    have ht : toks[i]? = some t := by
      have := congrArg (fun l => l[0]?) hd
      simpa [List.getElem?_drop] using this
    obtain ⟨a, ha, hta⟩ := paired_get' rr ht
    exact ⟨_, rfl, r, _, dx, _, _, rfl, e, T.cl_Reader, T.na_Reader_tokens, lk1, _, rfl, r, _, dx, _, _, rfl, e, T.cl_Reader, T.na_Reader_read, (lk2 (by decide +kernel)).trans lk1, q, _, _, _, rfl, rfl, SqL.of eq, atI_nat (by rw [List.getElem?_map, ha]; rfl), k a hta⟩
theorem sc_Reader_take : FnScope N_Reader_take P_Reader_take (defScope s_Reader_take) := ⟨rfl, rfl, rfl, by decide +kernel, rfl, by decide +kernel, by decide +kernel⟩
theorem ok_Reader_take (T : Txt K mg ad) : OkM P w K mg base CX0 1 ad.cReader "take" P_Reader_take (sp_Reader_take ad) := by
  obtain ⟨f, fd, M, F, hb⟩ := T.d_Reader_take
  refine ⟨f, fd, M, hb, F.ok sc_Reader_take (fun vs H Q E h => ?_) (fun cdv A outer s H vs Q E hr h => ⟨_, (pss_one (ps_fldaug (pv 0) pe_int in_add)), ?_⟩)⟩
  · obtain ⟨r, q, t, m, rfl, _⟩ := h
    rfl
  · obtain ⟨r, q, t, m, rfl, rs, k⟩ := h
    have A := rs.apart
    obtain ⟨dx, toks, i, e, ht, hd⟩ := rs
    have nq : q ≠ r := fun z => by
      obtain ⟨as, eq, _⟩ := ht
      rw [z, e] at eq
      cases eq
    refine ⟨_, rfl, r, _, dx, _, _, rfl, e, T.cl_Reader, T.na_Reader_read, (lk2 (by decide +kernel)).trans lk1, _, _, rfl, rfl, dx, _, e, by show 2 < 1000; decide, ?_⟩
    refine k _ But.upd ⟨dx, toks, i + 1, upd_same.trans ?_, ht.but A But.upd nq, ?_⟩
    · unfold rdF
      rw [pt2 (by decide +kernel), pt1]
      rfl
    · rw [← List.drop_drop, hd]
      rfl

/-! ### one token -/
theorem sc_take_sort : FnScope N_take_sort P_take_sort (defScope s_take_sort) := ⟨rfl, rfl, rfl, by decide +kernel, rfl, by decide +kernel, by decide +kernel⟩
def sp_take_sort (ad : Ad) : Sp := fun vs H Q E => ∃ (r q : PySem.Addr) (l : Toks) (k : Nat), vs = [.ref r, .int (k : Int)] ∧ RS ad H r q l ∧ (∃ t m, l = t :: m) ∧ (Gr.hs l ≠ k → FltB ad r H E ⟨3, VasedBase.here l⟩) ∧
  (Gr.hs l = k → ∀ H', But r H H' → RS ad H' r q (l.drop 1) → Q .non H')
theorem ok_take_sort (T : Txt K mg ad) : OkD P w K mg base (L2.CX P w) 3 "take_sort" P_take_sort (sp_take_sort ad) := by
  obtain ⟨f, fd, hm, F, hb⟩ := T.d_take_sort
  have G_Reader_now : OkM P w K mg base CX0 1 ad.cReader "now" P_Reader_now (sp_Reader_now ad) := ok_Reader_now T
  have G_Reader_take : OkM P w K mg base CX0 1 ad.cReader "take" P_Reader_take (sp_Reader_take ad) := ok_Reader_take T
  have G_Fault : OkE P w K mg base CX0 1 ad.cFault P_Fault_init (sp_Fault_init ad) := ok_Fault_init T
  refine ⟨f, fd, hm, F.kp, hb, F.okX sc_take_sort (fun vs H Q E h => ?_) (fun cdv A outer s H vs Q E hr h => ⟨_, (pss_cons (ps_set (i := 2) sc_take_sort.nd rfl (Or.inl rfl) (pe_methD0 (pv 0) T.cl_Reader (G_Reader_now) (hr.mono (by decide)) pass0))
     (pss_cons (ps_if (pt_cmpR op_ne (pe_fld (pv 2) rfl) (pv 1) (nomark _))
     (pss_one (ps_raise rfl (takes_of rfl rfl rfl rfl) (pmk_F T rfl G_Fault (hr.mono (by decide)) (pa_cons pe_int (pa_cons (pe_fld (pv 2) rfl) pa_nil)))))
     pss_nil)
     (pss_one (ps_expr (pe_methD0 (pv 0) T.cl_Reader (G_Reader_take) (hr.mono (by decide)) pass0))))), ?_⟩)⟩
  · obtain ⟨r, q, l, k, rfl, _⟩ := h
    rfl
  · obtain ⟨r, q, l, k, rfl, rs, ⟨t, m, rfl⟩, kf, ks⟩ := h
    refine ⟨_, rfl, r, _, _, rfl, rs.ins, rdF_now, r, q, _, _, rfl, rs, fun a ha => ?_⟩
    refine ⟨_, rfl, ⟨_, _, _, _, _, rfl, ha.ins, T.cl_Token, T.na_Token_what, tokF_what, _, rfl, rfl, _, rfl, ?_⟩⟩
    refine ifN (fun e => ?_) (fun e => ?_)
    · have e' : Gr.hs (t :: m) ≠ k := fun z => e (by show V.int _ = _; rw [show Gr.tokSort t.tok = k from z])
      exact ⟨_, rfl, _, _, _, _, _, rfl, ha.ins, T.cl_Token, T.na_Token_place, tokF_place, (r_raise (c := 3) (kf e').flt)⟩
    · rw [vi_eq] at e
      exact ⟨_, rfl, r, _, _, rfl, rs.ins, rdF_take, r, q, _, _, rfl, rs, fun H' b rs' => ks (by show Gr.tokSort t.tok = k; omega) H' b rs'⟩
theorem sc_take_letters : FnScope N_take_letters P_take_letters (defScope s_take_letters) := ⟨rfl, rfl, rfl, by decide +kernel, rfl, by decide +kernel, by decide +kernel⟩
def sp_take_letters (ad : Ad) : Sp := fun vs H Q E => ∃ (r q : PySem.Addr) (l : Toks), vs = [.ref r] ∧ RS ad H r q l ∧ Gr.Good l ∧ Pr ad r q H E (fun x H' => ∀ wd, H' wd = some (.tup (vl x)) → Q (.ref wd) H') (Vaseda.takeLetters l)
theorem hw_eq {t : PTok} {m : Toks} : Gr.hw (t :: m) = tokW t.tok := by
  obtain ⟨p, t⟩ := t
  cases t <;> rfl
theorem hn_eq {t : PTok} {m : Toks} : Gr.hn (t :: m) = tokN t.tok := by
  obtain ⟨p, t⟩ := t
  cases t <;> rfl
theorem ok_take_letters (T : Txt K mg ad) : OkD P w K mg base (L2.CX P w) 4 "take_letters" P_take_letters (sp_take_letters ad) := by
  obtain ⟨f, fd, hm, F, hb⟩ := T.d_take_letters
  have G_Reader_now : OkM P w K mg base CX0 1 ad.cReader "now" P_Reader_now (sp_Reader_now ad) := ok_Reader_now T
  have G_take_sort : OkD P w K mg base (L2.CX P w) 3 "take_sort" P_take_sort (sp_take_sort ad) := ok_take_sort T
  refine ⟨f, fd, hm, F.kp, hb, F.okX sc_take_letters (fun vs H Q E h => ?_) (fun cdv A outer s H vs Q E hr h => ⟨_, (pss_cons (ps_set (i := 1) sc_take_letters.nd rfl (Or.inl rfl) (pe_fld (pe_methD0 (pv 0) T.cl_Reader (G_Reader_now) (hr.mono (by decide)) pass0) rfl))
     (pss_cons (ps_expr (pe_callD (G_take_sort) (hr.mono (by decide)) (passX (takes_of rfl rfl rfl rfl)) (pa_cons (pv 0) (pa_cons (g_int 21 T.g_LETTERS) pa_nil))))
     (pss_one (ps_ret (pv 1))))), ?_⟩)⟩
  · obtain ⟨r, q, l, rfl, _⟩ := h
    rfl
  · obtain ⟨r, q, l, rfl, rs, g, k⟩ := h
    obtain ⟨t, m, rfl⟩ := g.ne
    rw [Gr.takeLetters_eq] at k
    refine ⟨_, rfl, r, _, _, rfl, rs.ins, rdF_now, r, q, _, _, rfl, rs, fun a ha => ⟨_, _, _, _, _, rfl, ha.ins, T.cl_Token, T.na_Token_word, tokF_word, ?_⟩⟩
    refine ⟨_, rfl, r, q, _, 21, rfl, rs, ⟨t, m, rfl⟩, fun e => k.1 _ (by rw [if_neg e]), fun e H' b rs' => ?_⟩
    rw [if_pos e] at k
    exact ⟨_, rfl, k.2 _ _ rfl H' b rs' ha.wd (by rw [hw_eq]; exact rs.apart.line b ha.word)⟩
theorem sc_take_letters_or_none : FnScope N_take_letters_or_none P_take_letters_or_none (defScope s_take_letters_or_none) := ⟨rfl, rfl, rfl, by decide +kernel, rfl, by decide +kernel, by decide +kernel⟩
def sp_take_letters_or_none (ad : Ad) : Sp := fun vs H Q E => ∃ (r q : PySem.Addr) (l : Toks), vs = [.ref r] ∧ RS ad H r q l ∧ Gr.Good l ∧ Pr ad r q H E (fun _ H' => Q .non H') (Vaseda.takeInstead l)
theorem ok_take_letters_or_none (T : Txt K mg ad) : OkD P w K mg base (L2.CX P w) 4 "take_letters_or_none" P_take_letters_or_none (sp_take_letters_or_none ad) := by
  obtain ⟨f, fd, hm, F, hb⟩ := T.d_take_letters_or_none
  have G_Reader_now : OkM P w K mg base CX0 1 ad.cReader "now" P_Reader_now (sp_Reader_now ad) := ok_Reader_now T
  have G_Reader_take : OkM P w K mg base CX0 1 ad.cReader "take" P_Reader_take (sp_Reader_take ad) := ok_Reader_take T
  have G_take_sort : OkD P w K mg base (L2.CX P w) 3 "take_sort" P_take_sort (sp_take_sort ad) := ok_take_sort T
  refine ⟨f, fd, hm, F.kp, hb, F.okX sc_take_letters_or_none (fun vs H Q E h => ?_) (fun cdv A outer s H vs Q E hr h => ⟨_, (pss_one (ps_if (pt_cmpR op_eq (pe_fld (pe_methD0 (pv 0) T.cl_Reader (G_Reader_now) (hr.mono (by decide)) pass0) rfl) (g_int 20 T.g_NONE) (nomark _))
     (pss_one (ps_expr (pe_methD0 (pv 0) T.cl_Reader (G_Reader_take) (hr.mono (by decide)) pass0)))
     (pss_one (ps_expr (pe_callD (G_take_sort) (hr.mono (by decide)) (passX (takes_of rfl rfl rfl rfl)) (pa_cons (pv 0) (pa_cons (g_int 21 T.g_LETTERS) pa_nil))))))), ?_⟩)⟩
  · obtain ⟨r, q, l, rfl, _⟩ := h
    rfl
  · obtain ⟨r, q, l, rfl, rs, g, k⟩ := h
    obtain ⟨t, m, rfl⟩ := g.ne
    rw [Gr.instead_eq] at k
    refine ⟨_, rfl, r, _, _, rfl, rs.ins, rdF_now, r, q, _, _, rfl, rs, fun a ha => ⟨_, _, _, _, _, rfl, ha.ins, T.cl_Token, T.na_Token_what, tokF_what, rfl, _, rfl, ?_⟩⟩
    refine ifP (fun e => ?_) (fun e => ?_)
    · rw [vi_eq] at e
      rw [if_pos (show Gr.hs (t :: m) = 20 from by show Gr.tokSort t.tok = 20; omega)] at k
      exact ⟨_, rfl, r, _, _, rfl, rs.ins, rdF_take, r, q, _, _, rfl, rs, fun H' b rs' => k.2 _ _ rfl H' b rs'⟩
    · rw [vi_eq] at e
      rw [if_neg (show ¬ Gr.hs (t :: m) = 20 from fun z => e (by have z' : Gr.tokSort t.tok = 20 := z; omega)), Gr.takeLetters_eq] at k
      refine ⟨_, rfl, r, q, _, 21, rfl, rs, ⟨t, m, rfl⟩, fun e => k.1 _ (by rw [if_neg e]), fun e H' b rs' => ?_⟩
      rw [if_pos e] at k
      exact k.2 _ _ rfl H' b rs'
theorem sc_take_number : FnScope N_take_number P_take_number (defScope s_take_number) := ⟨rfl, rfl, rfl, by decide +kernel, rfl, by decide +kernel, by decide +kernel⟩
def sp_take_number (ad : Ad) : Sp := fun vs H Q E => ∃ (r q : PySem.Addr) (l : Toks) (lo hi : Nat), vs = [.ref r, .int (lo : Int), .int (hi : Int)] ∧ RS ad H r q l ∧ Gr.Good l ∧ Pr ad r q H E (fun (n : Nat) H' => Q (.int (n : Int)) H') (Vaseda.takeNum lo hi l)
theorem ok_take_number (T : Txt K mg ad) : OkD P w K mg base (L2.CX P w) 4 "take_number" P_take_number (sp_take_number ad) := by
  obtain ⟨f, fd, hm, F, hb⟩ := T.d_take_number
  have G_Reader_now : OkM P w K mg base CX0 1 ad.cReader "now" P_Reader_now (sp_Reader_now ad) := ok_Reader_now T
  have G_take_sort : OkD P w K mg base (L2.CX P w) 3 "take_sort" P_take_sort (sp_take_sort ad) := ok_take_sort T
  have G_Fault : OkE P w K mg base CX0 1 ad.cFault P_Fault_init (sp_Fault_init ad) := ok_Fault_init T
  refine ⟨f, fd, hm, F.kp, hb, F.okX sc_take_number (fun vs H Q E h => ?_) (fun cdv A outer s H vs Q E hr h => ⟨_, (pss_cons (ps_set (i := 3) sc_take_number.nd rfl (Or.inl rfl) (pe_methD0 (pv 0) T.cl_Reader (G_Reader_now) (hr.mono (by decide)) pass0))
     (pss_cons (ps_expr (pe_callD (G_take_sort) (hr.mono (by decide)) (passX (takes_of rfl rfl rfl rfl)) (pa_cons (pv 0) (pa_cons (g_int 22 T.g_NUMBER) pa_nil))))
     (pss_cons (ps_if (PW.pt (pw_or (pt_cmpR op_lt (pe_fld (pv 3) rfl) (pv 1) (nomark _)) (pw_or1 (pt_cmpR op_gt (pe_fld (pv 3) rfl) (pv 2) (nomark _)))))
     (pss_one (ps_raise rfl (takes_of rfl rfl rfl rfl) (pmk_F T rfl G_Fault (hr.mono (by decide)) (pa_cons pe_int (pa_cons (pe_fld (pv 3) rfl) pa_nil)))))
     pss_nil)
     (pss_one (ps_ret (pe_fld (pv 3) rfl)))))), ?_⟩)⟩
  · obtain ⟨r, q, l, lo, hi, rfl, _⟩ := h
    rfl
  · obtain ⟨r, q, l, lo, hi, rfl, rs, g, k⟩ := h
    obtain ⟨t, m, rfl⟩ := g.ne
    rw [Gr.takeNum_eq, hn_eq] at k
    refine ⟨_, rfl, r, _, _, rfl, rs.ins, rdF_now, r, q, _, _, rfl, rs, fun a ha => ?_⟩
    refine ⟨_, rfl, r, q, _, 22, rfl, rs, ⟨t, m, rfl⟩, fun e => k.1 _ (by rw [if_neg e]), fun e H' b rs' => ?_⟩
    rw [if_pos e] at k
    have ha' := ha.but rs.apart b
    refine ⟨_, rfl, ⟨_, _, _, _, _, rfl, ha'.ins, T.cl_Token, T.na_Token_amount, tokF_amount, _, rfl, _, _, rfl, rfl, _, rfl, ?_⟩⟩
    have bad : (tokN t.tok < lo ∨ hi < tokN t.tok) → FltB ad r H' E ⟨7, t.place⟩ := fun z => by
      rw [if_pos z] at k
      exact (k.1 _ rfl).mono b
    refine ifP (fun e1 => ?_) (fun e1 => ?_)
    · exact iteT ⟨_, rfl, _, _, _, _, _, rfl, ha'.ins, T.cl_Token, T.na_Token_place, tokF_place, (r_raise (c := 7) (bad (.inl (by omega))).flt)⟩
    refine ⟨_, rfl, ⟨_, _, _, _, _, rfl, ha'.ins, T.cl_Token, T.na_Token_amount, tokF_amount, _, rfl, _, _, rfl, rfl, _, rfl, ?_⟩⟩
    refine ifP (fun e2 => ?_) (fun e2 => ?_)
    · exact ⟨_, rfl, _, _, _, _, _, rfl, ha'.ins, T.cl_Token, T.na_Token_place, tokF_place, (r_raise (c := 7) (bad (.inr (by omega))).flt)⟩
    · rw [if_neg (by omega)] at k
      exact ⟨_, rfl, _, _, _, _, _, rfl, ha'.ins, T.cl_Token, T.na_Token_amount, tokF_amount, (k.2 _ _ rfl H' b rs')⟩
theorem cnt_yes {l : Toks} {k : Nat} (h : Gr.hs l = 8) : Gr.cnt (k + 1) l = Gr.cnt k (l.drop 1) + 1 := if_pos h
theorem cnt_no {l : Toks} {k : Nat} (h : ¬ Gr.hs l = 8) : Gr.cnt (k + 1) l = 0 := if_neg h
theorem sc_read_nots : FnScope N_read_nots P_read_nots (defScope s_read_nots) := ⟨rfl, rfl, rfl, by decide +kernel, rfl, by decide +kernel, by decide +kernel⟩
def sp_read_nots (ad : Ad) : Sp := fun vs H Q E => ∃ (r q : PySem.Addr) (l : Toks), vs = [.ref r] ∧ RS ad H r q l ∧ Gr.Good l ∧ (Gr.cnt 4 l = 4 → FltB ad r H E ⟨4, VasedBase.here (l.drop 3)⟩) ∧
  (Gr.cnt 4 l ≠ 4 → ∀ H', But r H H' → RS ad H' r q (l.drop (Gr.cnt 4 l)) → Q (.int (Gr.cnt 4 l : Int)) H')
theorem ok_read_nots (T : Txt K mg ad) : OkD P w K mg base (L2.CX P w) 3 "read_nots" P_read_nots (sp_read_nots ad) := by
  obtain ⟨f, fd, hm, F, hb⟩ := T.d_read_nots
  have G_Reader_now : OkM P w K mg base CX0 1 ad.cReader "now" P_Reader_now (sp_Reader_now ad) := ok_Reader_now T
  have G_Reader_take : OkM P w K mg base CX0 1 ad.cReader "take" P_Reader_take (sp_Reader_take ad) := ok_Reader_take T
  have G_Fault : OkE P w K mg base CX0 1 ad.cFault P_Fault_init (sp_Fault_init ad) := ok_Fault_init T
  refine ⟨f, fd, hm, F.kp, hb, F.okX sc_read_nots (fun vs H Q E h => ?_) (fun cdv A outer s H vs Q E hr h => ⟨_, (pss_cons (ps_for (passes_of rfl) rfl (pi_range1 rfl T.n_range (pa_cons pe_int pa_nil)) (pg_name (i := 1) sc_read_nots.nd rfl (Or.inl rfl))
     (pss_cons (ps_if (pt_cmpR op_ne (pe_fld (pe_methD0 (pv 0) T.cl_Reader (G_Reader_now) (hr.mono (by decide)) pass0) rfl) (g_int 8 T.g_NOT) (nomark _))
     (pss_one (ps_ret (pv 1)))
     pss_nil)
     (pss_one (ps_expr (pe_methD0 (pv 0) T.cl_Reader (G_Reader_take) (hr.mono (by decide)) pass0)))))
     (pss_cons (ps_if (pt_cmpR op_eq (pe_fld (pe_methD0 (pv 0) T.cl_Reader (G_Reader_now) (hr.mono (by decide)) pass0) rfl) (g_int 8 T.g_NOT) (nomark _))
     (pss_one (ps_raise rfl (takes_of rfl rfl rfl rfl) (pmk_F T rfl G_Fault (hr.mono (by decide)) (pa_cons pe_int (pa_cons (pe_fld (pe_methD0 (pv 0) T.cl_Reader (G_Reader_now) (hr.mono (by decide)) pass0) rfl) pa_nil)))))
     pss_nil)
     (pss_one (ps_ret pe_int)))), ?_⟩)⟩
  · obtain ⟨r, q, l, rfl, _⟩ := h
    rfl
  · obtain ⟨r, q, l, rfl, rs, g, kf, ks⟩ := h
    refine ⟨3, rfl, by decide, by decide, for_range (fun i σ H' => ∃ v, σ = [some (.ref r), v] ∧ But r H H' ∧ RS ad H' r q (l.drop i) ∧ Gr.Good (l.drop i) ∧ i ≤ 3 ∧ Gr.cnt 4 l = i + Gr.cnt (4 - i) (l.drop i)) ⟨_, rfl, fun _ _ _ e => e, rs, g, Nat.zero_le _, (Nat.zero_add _).symm⟩ ?_ ?_⟩
    · rintro i σ H' hi ⟨v, rfl, b, rs', g', _, ec⟩
      have hi' : i < 3 := hi
      obtain ⟨t, m, em⟩ := g'.ne
      rw [em] at rs'
      rw [Int.zero_add]
      refine ⟨_, rfl, r, _, _, rfl, rs'.ins, rdF_now, r, q, _, _, rfl, rs', fun a ha => ⟨_, _, _, _, _, rfl, ha.ins, T.cl_Token, T.na_Token_what, tokF_what, rfl, _, rfl, ?_⟩⟩
      rw [em, show 4 - i = (3 - i) + 1 from by omega] at ec
      refine ifN (fun e => ?_) (fun e => ?_)
      · rw [vi_eq] at e
        rw [cnt_no (l := t :: m) (fun z => e (by have z' : Gr.tokSort t.tok = 8 := z; omega)), Nat.add_zero] at ec
        refine ⟨_, rfl, ?_⟩
        rw [← em] at rs'
        have q := ks (by omega) H' b (by rw [ec]; exact rs')
        rw [ec] at q
        exact q
      · rw [vi_eq] at e
        have e8 : Gr.hs (t :: m) = 8 := by show Gr.tokSort t.tok = 8; omega
        rw [cnt_yes e8] at ec
        refine ⟨_, rfl, r, _, _, rfl, rs'.ins, rdF_take, r, q, _, _, rfl, rs', fun H2 b2 rs2 => ⟨_, rfl, b.trans b2, ?_, ?_, by omega, ?_⟩⟩
        · rw [← List.drop_drop, em]
          exact rs2
        · rw [← List.drop_drop, em]
          rw [em] at g'
          exact g'.drop1 (by rw [e8]; decide)
        · rw [← List.drop_drop, em, show 4 - (i + 1) = 3 - i from by omega]
          show Gr.cnt 4 l = i + 1 + Gr.cnt (3 - i) ((t :: m).drop 1)
          omega
    · rintro σ H' ⟨v, rfl, b, rs', g', _, ec⟩
      have ec' : Gr.cnt 4 l = 3 + Gr.cnt 1 (l.drop 3) := ec
      have rs3 : RS ad H' r q (l.drop 3) := rs'
      have g3 : Gr.Good (l.drop 3) := g'
      obtain ⟨t, m, em⟩ := g3.ne
      have rs4 := rs3
      rw [em] at rs4
      refine ⟨_, rfl, r, _, _, rfl, rs4.ins, rdF_now, r, q, _, _, rfl, rs4, fun a ha => ⟨_, _, _, _, _, rfl, ha.ins, T.cl_Token, T.na_Token_what, tokF_what, rfl, _, rfl, ?_⟩⟩
      rw [em] at ec'
      refine ifP (fun e => ?_) (fun e => ?_)
      · rw [vi_eq] at e
        rw [cnt_yes (l := t :: m) (by show Gr.tokSort t.tok = 8; omega)] at ec'
        have e4 : Gr.cnt 4 l = 4 := ec'
        have fl := kf e4
        rw [em] at fl
        exact ⟨_, rfl, r, _, _, rfl, rs4.ins, rdF_now, r, q, _, _, rfl, rs4, fun a ha => ⟨_, _, _, _, _, rfl, ha.ins, T.cl_Token, T.na_Token_place, tokF_place, (r_raise (c := 4) (fl.mono b).flt)⟩⟩
      · rw [vi_eq] at e
        rw [cnt_no (l := t :: m) (fun z => e (by have z' : Gr.tokSort t.tok = 8 := z; omega))] at ec'
        have e3 : Gr.cnt 4 l = 3 := ec'
        have q := ks (by omega) H' b (by rw [e3]; exact rs3)
        rw [e3] at q
        exact q
end
end Lw

/-! grammar: addresses, deeds, commands, scripts -/
namespace Lw
open PySem PySem.Spec PyProof.Rows L2
open VasedBase (Bytes PTok Toks)
open Vaseda (Deed Cmd Script Line)

theorem nNot_nots (n : Nat) (A : Vaseda.Addr) : nNot (Gr.nots n A) = n + nNot A := by
  induction n with
  | zero => exact (Nat.zero_add _).symm
  | succ n ih => show nNot (Gr.nots n A) + 1 = n + 1 + nNot A; omega
theorem aWhat_nots (n : Nat) (A : Vaseda.Addr) : aWhat (Gr.nots n A) = aWhat A := by
  induction n with
  | zero => rfl
  | succ n ih => exact ih
theorem aLow_nots (n : Nat) (A : Vaseda.Addr) : aLow (Gr.nots n A) = aLow A := by
  induction n with
  | zero => rfl
  | succ n ih => exact ih
theorem aHigh_nots (n : Nat) (A : Vaseda.Addr) : aHigh (Gr.nots n A) = aHigh A := by
  induction n with
  | zero => rfl
  | succ n ih => exact ih
theorem aWord_nots (n : Nat) (A : Vaseda.Addr) : aWord (Gr.nots n A) = aWord A := by
  induction n with
  | zero => rfl
  | succ n ih => exact ih
def addrL (n what low high : Int) (wd : PySem.Addr) : List (Str × V) := [("nots", .int n), ("what", .int what), ("low", .int low), ("high", .int high), ("word", .ref wd)]
theorem addrF_of {n : Nat} {A : Vaseda.Addr} {wd : PySem.Addr} (h : nNot A = 0) : addrF (Gr.nots n A) wd = addrL n (aWhat A : Int) (aLow A : Int) (aHigh A : Int) wd := by
  unfold addrF addrL
  rw [nNot_nots, aWhat_nots, aLow_nots, aHigh_nots, h, Nat.add_zero]
def sp_Address_init (ad : Ad) : Sp := fun vs H Q _ => ∃ (p dx wd : PySem.Addr) (n what low high : Int), vs = [.ref p, .int n, .int what, .int low, .int high, .ref wd] ∧ H p = some (.ins ad.cAddress dx []) ∧ ∀ H', But p H H' → H' p = some (.ins ad.cAddress dx (addrL n what low high wd)) → Q .non H'
def deedL (what : Int) (wd : PySem.Addr) (many : Int) : List (Str × V) := [("what", .int what), ("word", .ref wd), ("many", .int many)]
def sp_Deed_init (ad : Ad) : Sp := fun vs H Q _ => ∃ (p dx wd : PySem.Addr) (what many : Int), vs = [.ref p, .int what, .ref wd, .int many] ∧ H p = some (.ins ad.cDeed dx []) ∧ ∀ H', But p H H' → H' p = some (.ins ad.cDeed dx (deedL what wd many)) → Q .non H'
/-- return Address(..): told -/
theorem ask_addr {ad : Ad} {H : Hp} {n what low high : Int} {wd : PySem.Addr} {A : Vaseda.Addr} {Q : VK} {E : XK} (hA : addrF A wd = addrL n what low high wd) (hw : H wd = some (.tup (vl (aWord A)))) (k : ∀ x H', Same H H' → AddrAt ad H' x A → Q (.ref x) H') :
    ∀ x dx, H x = none → H dx = none → dx ≠ x → sp_Address_init ad (.ref x :: ([.int n, .int what, .int low, .int high, .ref wd] ++ [])) (upd (upd H dx (.own x)) x (.ins ad.cAddress dx [])) (fun v H2 => v = .non ∧ Q (.ref x) H2) E :=
  fun x dx nx nd ne => ⟨x, dx, wd, n, what, low, high, rfl, upd_same, fun H2 bt e2 => ⟨rfl, k x H2 (mk_same nx nd bt) ⟨dx, wd, e2.trans (by rw [hA]), mk_same nx nd bt _ _ hw⟩⟩⟩
theorem ask_deed {ad : Ad} {H : Hp} {what many : Int} {wd : PySem.Addr} {d : Deed} {Q : VK} {E : XK} (hd : deedF d wd = deedL what wd many) (hw : H wd = some (.tup (vl (dWord d)))) (k : ∀ x H', Same H H' → DeedAt ad H' x d → Q (.ref x) H') :
    ∀ x dx, H x = none → H dx = none → dx ≠ x → sp_Deed_init ad (.ref x :: ([.int what, .ref wd, .int many] ++ [])) (upd (upd H dx (.own x)) x (.ins ad.cDeed dx [])) (fun v H2 => v = .non ∧ Q (.ref x) H2) E :=
  fun x dx nx nd ne => ⟨x, dx, wd, what, many, rfl, upd_same, fun H2 bt e2 => ⟨rfl, k x H2 (mk_same nx nd bt) ⟨dx, wd, e2.trans (by rw [hd]), mk_same nx nd bt _ _ hw⟩⟩⟩
section
variable {P : Program} {w : World} {K : PySem.W.Frag} {mg : Str → Option Value} {base : Heap} {ad : Ad}
theorem sc_Address_init : FnScope N_Address_init P_Address_init (defScope s_Address_init) := ⟨rfl, rfl, rfl, by decide +kernel, rfl, by decide +kernel, by decide +kernel⟩
theorem ok_Address_init (T : Txt K mg ad) : OkI P w K mg base CX0 1 ad.cAddress "Address" P_Address_init (sp_Address_init ad) := by
  obtain ⟨f, fd, M, hm, F, hb⟩ := T.d_Address_init
  refine ⟨f, fd, M, hm, hb, F.ok sc_Address_init (fun vs H Q E h => ?_) (fun cdv A outer s H vs Q E hr h => ⟨_, (pss_cons (ps_fld (pv 0) (pv 1) rfl)
     (pss_cons (ps_fld (pv 0) (pv 2) rfl)
     (pss_cons (ps_fld (pv 0) (pv 3) rfl)
     (pss_cons (ps_fld (pv 0) (pv 4) rfl)
     (pss_one (ps_fld (pv 0) (pv 5) rfl)))))), ?_⟩)⟩
  · obtain ⟨p, dx, wd, a, b, c, d, rfl, _⟩ := h
    rfl
  · obtain ⟨p, dx, wd, a, b, c, d, rfl, hp, k⟩ := h
    refine ⟨_, rfl, _, rfl, p, _, dx, _, rfl, hp, T.cl_Address, T.na_Address_nots, by decide, ?_⟩
    refine ⟨_, rfl, _, rfl, p, _, dx, _, rfl, upd_same, T.cl_Address, T.na_Address_what, by show 1 < 1000; decide, ?_⟩
    refine ⟨_, rfl, _, rfl, p, _, dx, _, rfl, upd_same, T.cl_Address, T.na_Address_low, by show 2 < 1000; decide, ?_⟩
    refine ⟨_, rfl, _, rfl, p, _, dx, _, rfl, upd_same, T.cl_Address, T.na_Address_high, by show 3 < 1000; decide, ?_⟩
    refine ⟨_, rfl, _, rfl, p, _, dx, _, rfl, upd_same, T.cl_Address, T.na_Address_word, by show 4 < 1000; decide, ?_⟩
    refine k _ (fun b o hb e => ?_) (upd_same.trans ?_)
    · rw [upd_ne hb, upd_ne hb, upd_ne hb, upd_ne hb, upd_ne hb]
      exact e
    · repeat (first | rw [pt0] | rw [pt2 (by decide +kernel)])
      rfl
theorem sc_Deed_init : FnScope N_Deed_init P_Deed_init (defScope s_Deed_init) := ⟨rfl, rfl, rfl, by decide +kernel, rfl, by decide +kernel, by decide +kernel⟩
theorem ok_Deed_init (T : Txt K mg ad) : OkI P w K mg base CX0 1 ad.cDeed "Deed" P_Deed_init (sp_Deed_init ad) := by
  obtain ⟨f, fd, M, hm, F, hb⟩ := T.d_Deed_init
  refine ⟨f, fd, M, hm, hb, F.ok sc_Deed_init (fun vs H Q E h => ?_) (fun cdv A outer s H vs Q E hr h => ⟨_, (pss_cons (ps_fld (pv 0) (pv 1) rfl)
     (pss_cons (ps_fld (pv 0) (pv 2) rfl)
     (pss_one (ps_fld (pv 0) (pv 3) rfl)))), ?_⟩)⟩
  · obtain ⟨p, dx, wd, a, b, rfl, _⟩ := h
    rfl
  · obtain ⟨p, dx, wd, a, b, rfl, hp, k⟩ := h
    refine ⟨_, rfl, _, rfl, p, _, dx, _, rfl, hp, T.cl_Deed, T.na_Deed_what, by decide, ?_⟩
    refine ⟨_, rfl, _, rfl, p, _, dx, _, rfl, upd_same, T.cl_Deed, T.na_Deed_word, by show 1 < 1000; decide, ?_⟩
    refine ⟨_, rfl, _, rfl, p, _, dx, _, rfl, upd_same, T.cl_Deed, T.na_Deed_many, by show 2 < 1000; decide, ?_⟩
    refine k _ (fun b o hb e => ?_) (upd_same.trans ?_)
    · rw [upd_ne hb, upd_ne hb, upd_ne hb]
      exact e
    · repeat (first | rw [pt0] | rw [pt2 (by decide +kernel)])
      rfl

theorem sc_read_address : FnScope N_read_address P_read_address (defScope s_read_address) := ⟨rfl, rfl, rfl, by decide +kernel, rfl, by decide +kernel, by decide +kernel⟩
def sp_read_address (ad : Ad) : Sp := fun vs H Q E => ∃ (r q : PySem.Addr) (l : Toks), vs = [.ref r] ∧ RS ad H r q l ∧ Gr.Good l ∧ Pr ad r q H E (fun A H' => ∀ p, AddrAt ad H' p A → Q (.ref p) H') (Vaseda.takeAddr (l.length + 1) 0 l)
theorem in_two {z a b : Nat} : inV (.int (z : Int)) [.int (a : Int), .int (b : Int)] = decide (z = a ∨ z = b) := by
  have e := inV_ints (z : Int) [(a : Int), (b : Int)]
  rw [show inV (.int (z : Int)) [.int (a : Int), .int (b : Int)] = _ from e]
  refine decide_eq_decide.mpr ?_
  simp only [List.mem_cons, List.not_mem_nil, or_false]
  omega
theorem ok_read_address (T : Txt K mg ad) : OkD P w K mg base (L2.CX P w) 5 "read_address" P_read_address (sp_read_address ad) := by
  obtain ⟨f, fd, hm, F, hb⟩ := T.d_read_address
  have G_Reader_now : OkM P w K mg base CX0 1 ad.cReader "now" P_Reader_now (sp_Reader_now ad) := ok_Reader_now T
  have G_Reader_take : OkM P w K mg base CX0 1 ad.cReader "take" P_Reader_take (sp_Reader_take ad) := ok_Reader_take T
  have G_Fault : OkE P w K mg base CX0 1 ad.cFault P_Fault_init (sp_Fault_init ad) := ok_Fault_init T
  have G_Address : OkI P w K mg base CX0 1 ad.cAddress "Address" P_Address_init (sp_Address_init ad) := ok_Address_init T
  have G_read_nots : OkD P w K mg base (L2.CX P w) 3 "read_nots" P_read_nots (sp_read_nots ad) := ok_read_nots T
  have G_take_sort : OkD P w K mg base (L2.CX P w) 3 "take_sort" P_take_sort (sp_take_sort ad) := ok_take_sort T
  have G_take_number : OkD P w K mg base (L2.CX P w) 4 "take_number" P_take_number (sp_take_number ad) := ok_take_number T
  have G_take_letters : OkD P w K mg base (L2.CX P w) 4 "take_letters" P_take_letters (sp_take_letters ad) := ok_take_letters T
  refine ⟨f, fd, hm, F.kp, hb, F.okX sc_read_address (fun vs H Q E h => ?_) (fun cdv A outer s H vs Q E hr h => ⟨_, (pss_cons (ps_set (i := 1) sc_read_address.nd rfl (Or.inl rfl) (pe_callD (G_read_nots) (hr.mono (by decide)) (passX (takes_of rfl rfl rfl rfl)) (pa_cons (pv 0) pa_nil)))
     (pss_cons (ps_set (i := 2) sc_read_address.nd rfl (Or.inl rfl) (pe_methD0 (pv 0) T.cl_Reader (G_Reader_now) (hr.mono (by decide)) pass0))
     (pss_cons (ps_if (pt_cmpR op_in_seq (pe_fld (pv 2) rfl) (pe_tup (pa_cons (g_int 1 T.g_ALL) (pa_cons (g_int 5 T.g_LAST) pa_nil))) (by rfl))
     (pss_cons (ps_expr (pe_methD0 (pv 0) T.cl_Reader (G_Reader_take) (hr.mono (by decide)) pass0))
     (pss_one (ps_ret (pe_makeD (G_Address) (hr.mono (by decide)) pass0 (pa_cons (pv 1) (pa_cons (pe_fld (pv 2) rfl) (pa_cons pe_int (pa_cons pe_int (pa_cons (pe_tup pa_nil) pa_nil)))))))))
     pss_nil)
     (pss_cons (ps_if (pt_cmpR op_eq (pe_fld (pv 2) rfl) (g_int 2 T.g_LINE) (nomark _))
     (pss_cons (ps_expr (pe_methD0 (pv 0) T.cl_Reader (G_Reader_take) (hr.mono (by decide)) pass0))
     (pss_cons (ps_set (i := 3) sc_read_address.nd rfl (Or.inl rfl) (pe_callD (G_take_number) (hr.mono (by decide)) (passX (takes_of rfl rfl rfl rfl)) (pa_cons (pv 0) (pa_cons pe_int (pa_cons pe_int pa_nil)))))
     (pss_one (ps_ret (pe_makeD (G_Address) (hr.mono (by decide)) pass0 (pa_cons (pv 1) (pa_cons (g_int 2 T.g_LINE) (pa_cons (pv 3) (pa_cons (pv 3) (pa_cons (pe_tup pa_nil) pa_nil))))))))))
     pss_nil)
     (pss_cons (ps_if (pt_cmpR op_eq (pe_fld (pv 2) rfl) (g_int 3 T.g_FROM) (nomark _))
     (pss_cons (ps_expr (pe_methD0 (pv 0) T.cl_Reader (G_Reader_take) (hr.mono (by decide)) pass0))
     (pss_cons (ps_set (i := 3) sc_read_address.nd rfl (Or.inl rfl) (pe_callD (G_take_number) (hr.mono (by decide)) (passX (takes_of rfl rfl rfl rfl)) (pa_cons (pv 0) (pa_cons pe_int (pa_cons pe_int pa_nil)))))
     (pss_cons (ps_expr (pe_callD (G_take_sort) (hr.mono (by decide)) (passX (takes_of rfl rfl rfl rfl)) (pa_cons (pv 0) (pa_cons (g_int 4 T.g_TO) pa_nil))))
     (pss_cons (ps_set (i := 4) sc_read_address.nd rfl (Or.inl rfl) (pe_callD (G_take_number) (hr.mono (by decide)) (passX (takes_of rfl rfl rfl rfl)) (pa_cons (pv 0) (pa_cons (pv 3) (pa_cons pe_int pa_nil)))))
     (pss_one (ps_ret (pe_makeD (G_Address) (hr.mono (by decide)) pass0 (pa_cons (pv 1) (pa_cons (g_int 3 T.g_FROM) (pa_cons (pv 3) (pa_cons (pv 4) (pa_cons (pe_tup pa_nil) pa_nil))))))))))))
     pss_nil)
     (pss_cons (ps_if (pt_cmpR op_in_seq (pe_fld (pv 2) rfl) (pe_tup (pa_cons (g_int 6 T.g_HAS) (pa_cons (g_int 7 T.g_IS) pa_nil))) (by rfl))
     (pss_cons (ps_expr (pe_methD0 (pv 0) T.cl_Reader (G_Reader_take) (hr.mono (by decide)) pass0))
     (pss_cons (ps_set (i := 5) sc_read_address.nd rfl (Or.inl rfl) (pe_callD (G_take_letters) (hr.mono (by decide)) (passX (takes_of rfl rfl rfl rfl)) (pa_cons (pv 0) pa_nil)))
     (pss_one (ps_ret (pe_makeD (G_Address) (hr.mono (by decide)) pass0 (pa_cons (pv 1) (pa_cons (pe_fld (pv 2) rfl) (pa_cons pe_int (pa_cons pe_int (pa_cons (pv 5) pa_nil))))))))))
     pss_nil)
     (pss_one (ps_raise rfl (takes_of rfl rfl rfl rfl) (pmk_F T rfl G_Fault (hr.mono (by decide)) (pa_cons pe_int (pa_cons (pe_fld (pv 2) rfl) pa_nil))))))))))), ?_⟩)⟩
  · obtain ⟨r, q, l, rfl, _⟩ := h
    rfl
  · obtain ⟨r, q, l, rfl, rs, g, k⟩ := h
    rw [Gr.addr_eq] at k
    refine ⟨_, rfl, r, q, l, rfl, rs, g, fun e => k.1 _ (by rw [if_pos e]), fun e H1 b1 rs1 => ?_⟩
    rw [if_neg e] at k
    have g1 := Gr.good_cnt 4 g
    replace k := k.more b1
    clear e b1 rs g
    generalize Gr.cnt 4 l = n at *
    generalize l.drop n = l1 at *
    obtain ⟨t, m, rfl⟩ := g1.ne
    refine ⟨_, rfl, r, _, _, rfl, rs1.ins, rdF_now, r, q, _, _, rfl, rs1, fun a ha => ?_⟩
    refine ⟨_, rfl, _, _, _, _, _, rfl, ha.ins, T.cl_Token, T.na_Token_what, tokF_what, by show 2 ≤ sizeLine; decide, fun p hp => ⟨p, _, rfl, SqTo upd_same, rfl, rfl, _, rfl, ?_⟩⟩
    have s2 : Same H1 (upd H1 p (.tup [.int 1, .int 5])) := Same.new hp
    replace rs1 := rs1.same s2
    replace ha := ha.same s2
    replace k := k.more (But.of s2)
    clear s2
    have hz : Gr.hs (t :: m) = Gr.tokSort t.tok := rfl
    refine ifB (fun e1 => ?_) (fun e1 => ?_)
    · replace e1 : inV (.int (Gr.tokSort t.tok : Int)) [.int ((1 : Nat) : Int), .int ((5 : Nat) : Int)] = true := e1
      rw [in_two, decide_eq_true_iff, ← hz] at e1
      refine ⟨_, rfl, r, _, _, rfl, rs1.ins, rdF_take, r, q, _, _, rfl, rs1, fun H3 b3 rs3 => ?_⟩
      have ha3 := ha.but rs1.apart b3
      refine ⟨_, rfl, _, rfl, _, _, _, _, _, rfl, ha3.ins, T.cl_Token, T.na_Token_what, tokF_what, by show 0 ≤ sizeLine; decide, fun wd hw => ?_⟩
      unfold Gr.bare at k
      rcases e1 with e1 | e1
      · rw [if_pos e1] at k
        exact ask_addr (A := Gr.nots n .all) ((addrF_of rfl).trans (by rw [← hz, e1]; rfl)) (by rw [aWord_nots]; exact upd_same) fun x H4 s4 hx => k.2 _ _ rfl H4 (b3.same ((Same.new hw).trans s4)) (rs3.same ((Same.new hw).trans s4)) x hx
      · rw [if_neg (by omega), if_pos e1] at k
        exact ask_addr (A := Gr.nots n .last) ((addrF_of rfl).trans (by rw [← hz, e1]; rfl)) (by rw [aWord_nots]; exact upd_same) fun x H4 s4 hx => k.2 _ _ rfl H4 (b3.same ((Same.new hw).trans s4)) (rs3.same ((Same.new hw).trans s4)) x hx
    replace e1 : inV (.int (Gr.tokSort t.tok : Int)) [.int ((1 : Nat) : Int), .int ((5 : Nat) : Int)] = false := e1
    rw [in_two, decide_eq_false_iff_not, ← hz, not_or] at e1
    unfold Gr.bare at k
    rw [if_neg e1.1, if_neg e1.2] at k
    generalize upd H1 p (.tup [.int 1, .int 5]) = H2 at *
    have g2 : Gr.hs (t :: m) ≠ 24 → Gr.Good m := fun z => g1.cons z
    refine ⟨_, rfl, _, _, _, _, _, rfl, ha.ins, T.cl_Token, T.na_Token_what, tokF_what, rfl, _, rfl, ?_⟩
    refine ifP (fun e2 => ?_) (fun e2 => ?_)
    · rw [vi_eq] at e2
      have e2' : Gr.hs (t :: m) = 2 := by omega
      rw [if_pos e2'] at k
      refine ⟨_, rfl, r, _, _, rfl, rs1.ins, rdF_take, r, q, _, _, rfl, rs1, fun H3 b3 rs3 => ?_⟩
      refine ⟨_, rfl, r, q, m, 1, 99, rfl, rs3, g2 (by omega), fun f hf => (k.1 f (by show Except.map _ (Except.map _ (Vaseda.takeNum 1 99 m)) = _; rw [hf]; rfl)).mono b3, fun x m' hx H4 b4 rs4 => ?_⟩
      refine ⟨_, rfl, _, rfl, _, rfl, by show 0 ≤ sizeLine; decide, fun wd hw => ?_⟩
      exact ask_addr (A := Gr.nots n (.line x)) (addrF_of rfl) (by rw [aWord_nots]; exact upd_same) fun y H5 s5 hy => k.2 _ _ (by show Except.map _ (Except.map _ (Vaseda.takeNum 1 99 m)) = _; rw [hx]; rfl) H5 ((b3.trans b4).same ((Same.new hw).trans s5)) (rs4.same ((Same.new hw).trans s5)) y hy
    rw [vi_eq] at e2
    rw [if_neg (show ¬ Gr.hs (t :: m) = 2 by omega)] at k
    refine ⟨_, rfl, _, _, _, _, _, rfl, ha.ins, T.cl_Token, T.na_Token_what, tokF_what, rfl, _, rfl, ?_⟩
    refine ifP (fun e3 => ?_) (fun e3 => ?_)
    · rw [vi_eq] at e3
      have e3' : Gr.hs (t :: m) = 3 := by omega
      rw [if_pos e3'] at k
      refine ⟨_, rfl, r, _, _, rfl, rs1.ins, rdF_take, r, q, _, _, rfl, rs1, fun H3 b3 rs3 => ?_⟩
      have gm := g2 (by omega)
      refine ⟨_, rfl, r, q, m, 1, 99, rfl, rs3, gm, fun f hf => (k.1 f (by show Except.map _ (Except.bind (Vaseda.takeNum 1 99 m) _) = _; rw [hf]; rfl)).mono b3, fun x m' hx H4 b4 rs4 => ?_⟩
      have gm' := Gr.good_num gm hx
      obtain ⟨t', m1, em⟩ := gm'.ne
      refine ⟨_, rfl, r, q, m', 4, rfl, rs4, ⟨t', m1, em⟩, fun e4 => (k.1 _ (by show Except.map _ (Except.bind (Vaseda.takeNum 1 99 m) _) = _; rw [hx]; show Except.map _ (Except.bind (VasedBase.takeWord "to" m') _) = _; rw [Gr.takeTo_eq, if_neg e4]; rfl)).mono (b3.trans b4), fun e4 H5 b5 rs5 => ?_⟩
      have gm2 : Gr.Good (m'.drop 1) := gm'.drop1 (by omega)
      have b35 := (b3.trans b4).trans b5
      refine ⟨_, rfl, _, rfl, r, q, m'.drop 1, x, 99, rfl, rs5, gm2, fun f hf => (k.1 f (by show Except.map _ (Except.bind (Vaseda.takeNum 1 99 m) _) = _; rw [hx]; show Except.map _ (Except.bind (VasedBase.takeWord "to" m') _) = _; rw [Gr.takeTo_eq, if_pos e4]; show Except.map _ (Except.map _ (Vaseda.takeNum x 99 (m'.drop 1))) = _; rw [hf]; rfl)).mono b35, fun y m2 hy H6 b6 rs6 => ?_⟩
      refine ⟨_, rfl, _, rfl, _, rfl, by show 0 ≤ sizeLine; decide, fun wd hw => ?_⟩
      exact ask_addr (A := Gr.nots n (.span x y)) (addrF_of rfl) (by rw [aWord_nots]; exact upd_same) fun z H7 s7 hz => k.2 _ _ (by show Except.map _ (Except.bind (Vaseda.takeNum 1 99 m) _) = _; rw [hx]; show Except.map _ (Except.bind (VasedBase.takeWord "to" m') _) = _; rw [Gr.takeTo_eq, if_pos e4]; show Except.map _ (Except.map _ (Vaseda.takeNum x 99 (m'.drop 1))) = _; rw [hy]; rfl) H7 ((b35.trans b6).same ((Same.new hw).trans s7)) (rs6.same ((Same.new hw).trans s7)) z hz
    rw [vi_eq] at e3
    rw [if_neg (show ¬ Gr.hs (t :: m) = 3 by omega)] at k
    refine ⟨_, rfl, _, _, _, _, _, rfl, ha.ins, T.cl_Token, T.na_Token_what, tokF_what, by show 2 ≤ sizeLine; decide, fun p hp => ⟨p, _, rfl, SqTo upd_same, rfl, rfl, _, rfl, ?_⟩⟩
    have s2 : Same H2 (upd H2 p (.tup [.int 6, .int 7])) := Same.new hp
    replace rs1 := rs1.same s2
    replace ha := ha.same s2
    replace k := k.more (But.of s2)
    refine ifB (fun e4 => ?_) (fun e4 => ?_)
    · replace e4 : inV (.int (Gr.tokSort t.tok : Int)) [.int ((6 : Nat) : Int), .int ((7 : Nat) : Int)] = true := e4
      rw [in_two, decide_eq_true_iff, ← hz] at e4
      refine ⟨_, rfl, r, _, _, rfl, rs1.ins, rdF_take, r, q, _, _, rfl, rs1, fun H3 b3 rs3 => ?_⟩
      have gm := g2 (by omega)
      rcases e4 with e4 | e4
      · rw [if_pos e4] at k
        refine ⟨_, rfl, r, q, m, rfl, rs3, gm, fun f hf => (k.1 f (by show Except.map _ (Except.map _ (Vaseda.takeLetters m)) = _; rw [hf]; rfl)).mono b3, fun x m' hx H4 b4 rs4 wd hw => ?_⟩
        have ha4 := ha.but rs1.apart (b3.trans b4)
        refine ⟨_, rfl, _, rfl, _, _, _, _, _, rfl, ha4.ins, T.cl_Token, T.na_Token_what, tokF_what, _, rfl, ?_⟩
        exact ask_addr (A := Gr.nots n (.has x)) ((addrF_of rfl).trans (by rw [← hz, e4]; rfl)) (by rw [aWord_nots]; exact hw) fun y H5 s5 hy => k.2 _ _ (by show Except.map _ (Except.map _ (Vaseda.takeLetters m)) = _; rw [hx]; rfl) H5 ((b3.trans b4).same s5) (rs4.same s5) y hy
      · rw [if_neg (by omega), if_pos e4] at k
        refine ⟨_, rfl, r, q, m, rfl, rs3, gm, fun f hf => (k.1 f (by show Except.map _ (Except.map _ (Vaseda.takeLetters m)) = _; rw [hf]; rfl)).mono b3, fun x m' hx H4 b4 rs4 wd hw => ?_⟩
        have ha4 := ha.but rs1.apart (b3.trans b4)
        refine ⟨_, rfl, _, rfl, _, _, _, _, _, rfl, ha4.ins, T.cl_Token, T.na_Token_what, tokF_what, _, rfl, ?_⟩
        exact ask_addr (A := Gr.nots n (.is_ x)) ((addrF_of rfl).trans (by rw [← hz, e4]; rfl)) (by rw [aWord_nots]; exact hw) fun y H5 s5 hy => k.2 _ _ (by show Except.map _ (Except.map _ (Vaseda.takeLetters m)) = _; rw [hx]; rfl) H5 ((b3.trans b4).same s5) (rs4.same s5) y hy
    · replace e4 : inV (.int (Gr.tokSort t.tok : Int)) [.int ((6 : Nat) : Int), .int ((7 : Nat) : Int)] = false := e4
      rw [in_two, decide_eq_false_iff_not, ← hz, not_or] at e4
      rw [if_neg e4.1, if_neg e4.2] at k
      exact ⟨_, rfl, _, _, _, _, _, rfl, ha.ins, T.cl_Token, T.na_Token_place, tokF_place, (r_raise (c := 3) (k.1 ⟨3, t.place⟩ rfl).flt)⟩
end
end Lw

/-! grammar: deeds, commands, scripts -/
namespace Lw
open PySem PySem.Spec PyProof.Rows L2
open VasedBase (Bytes PTok Toks)
open Vaseda (Deed Cmd Script Line)
theorem in_list {z : Nat} (ks : List Nat) : inV (.int (z : Int)) (ks.map fun n : Nat => V.int (n : Int)) = decide (z ∈ ks) := by
  have e := inV_ints (z : Int) (ks.map fun n : Nat => (n : Int))
  rw [List.map_map] at e
  rw [show inV (.int (z : Int)) (ks.map fun n : Nat => V.int (n : Int)) = _ from e]
  refine decide_eq_decide.mpr ⟨fun h => ?_, fun h => List.mem_map.mpr ⟨z, h, rfl⟩⟩
  obtain ⟨n, hn, e⟩ := List.mem_map.mp h
  rw [show z = n by omega]
  exact hn
theorem RS.but2 {ad : Ad} {H H' : Hp} {r q d : PySem.Addr} {l : Toks} (A : Apart H d) (b : But d H H') (nr : r ≠ d) (nq : q ≠ d) (h : RS ad H r q l) : RS ad H' r q l := let ⟨dx, toks, i, e, t, x⟩ := h; ⟨dx, toks, i, b _ _ nr e, t.but A b nq, x⟩
section
variable {P : Program} {w : World} {K : PySem.W.Frag} {mg : Str → Option Value} {base : Heap} {ad : Ad}
theorem sc_read_deed : FnScope N_read_deed P_read_deed (defScope s_read_deed) := ⟨rfl, rfl, rfl, by decide +kernel, rfl, by decide +kernel, by decide +kernel⟩
def sp_read_deed (ad : Ad) : Sp := fun vs H Q E => ∃ (r q : PySem.Addr) (l : Toks), vs = [.ref r] ∧ RS ad H r q l ∧ Gr.Good l ∧ Pr ad r q H E (fun d H' => ∀ p, DeedAt ad H' p d → Q (.ref p) H') (Vaseda.takeDeed l)
theorem ok_read_deed (T : Txt K mg ad) : OkD P w K mg base (L2.CX P w) 5 "read_deed" P_read_deed (sp_read_deed ad) := by
  obtain ⟨f, fd, hm, F, hb⟩ := T.d_read_deed
  have G_Reader_now : OkM P w K mg base CX0 1 ad.cReader "now" P_Reader_now (sp_Reader_now ad) := ok_Reader_now T
  have G_Reader_take : OkM P w K mg base CX0 1 ad.cReader "take" P_Reader_take (sp_Reader_take ad) := ok_Reader_take T
  have G_Fault : OkE P w K mg base CX0 1 ad.cFault P_Fault_init (sp_Fault_init ad) := ok_Fault_init T
  have G_Deed : OkI P w K mg base CX0 1 ad.cDeed "Deed" P_Deed_init (sp_Deed_init ad) := ok_Deed_init T
  have G_take_sort : OkD P w K mg base (L2.CX P w) 3 "take_sort" P_take_sort (sp_take_sort ad) := ok_take_sort T
  have G_take_number : OkD P w K mg base (L2.CX P w) 4 "take_number" P_take_number (sp_take_number ad) := ok_take_number T
  have G_take_letters : OkD P w K mg base (L2.CX P w) 4 "take_letters" P_take_letters (sp_take_letters ad) := ok_take_letters T
  have G_take_letters_or_none : OkD P w K mg base (L2.CX P w) 4 "take_letters_or_none" P_take_letters_or_none (sp_take_letters_or_none ad) := ok_take_letters_or_none T
  refine ⟨f, fd, hm, F.kp, hb, F.okX sc_read_deed (fun vs H Q E h => ?_) (fun cdv A outer s H vs Q E hr h => ⟨_, (pss_cons (ps_set (i := 1) sc_read_deed.nd rfl (Or.inl rfl) (pe_methD0 (pv 0) T.cl_Reader (G_Reader_now) (hr.mono (by decide)) pass0))
     (pss_cons (ps_if (pt_cmpR op_in_seq (pe_fld (pv 1) rfl) (pe_tup (pa_cons (g_int 9 T.g_DELETE) (pa_cons (g_int 15 T.g_KEEP) (pa_cons (g_int 16 T.g_BRING) (pa_cons (g_int 17 T.g_TRADE) (pa_cons (g_int 19 T.g_STOP) pa_nil)))))) (by rfl))
     (pss_cons (ps_expr (pe_methD0 (pv 0) T.cl_Reader (G_Reader_take) (hr.mono (by decide)) pass0))
     (pss_one (ps_ret (pe_makeD (G_Deed) (hr.mono (by decide)) pass0 (pa_cons (pe_fld (pv 1) rfl) (pa_cons (pe_tup pa_nil) (pa_cons pe_int pa_nil)))))))
     pss_nil)
     (pss_cons (ps_if (pt_cmpR op_in_seq (pe_fld (pv 1) rfl) (pe_tup (pa_cons (g_int 10 T.g_BEFORE) (pa_cons (g_int 11 T.g_AFTER) (pa_cons (g_int 12 T.g_CHANGE) pa_nil)))) (by rfl))
     (pss_cons (ps_expr (pe_methD0 (pv 0) T.cl_Reader (G_Reader_take) (hr.mono (by decide)) pass0))
     (pss_cons (ps_set (i := 2) sc_read_deed.nd rfl (Or.inl rfl) (pe_callD (G_take_letters) (hr.mono (by decide)) (passX (takes_of rfl rfl rfl rfl)) (pa_cons (pv 0) pa_nil)))
     (pss_one (ps_ret (pe_makeD (G_Deed) (hr.mono (by decide)) pass0 (pa_cons (pe_fld (pv 1) rfl) (pa_cons (pv 2) (pa_cons pe_int pa_nil))))))))
     pss_nil)
     (pss_cons (ps_if (pt_cmpR op_in_seq (pe_fld (pv 1) rfl) (pe_tup (pa_cons (g_int 13 T.g_SWAP) (pa_cons (g_int 14 T.g_FIRST) pa_nil))) (by rfl))
     (pss_cons (ps_expr (pe_methD0 (pv 0) T.cl_Reader (G_Reader_take) (hr.mono (by decide)) pass0))
     (pss_cons (ps_expr (pe_callD (G_take_sort) (hr.mono (by decide)) (passX (takes_of rfl rfl rfl rfl)) (pa_cons (pv 0) (pa_cons (g_int 21 T.g_LETTERS) pa_nil))))
     (pss_cons (ps_expr (pe_callD (G_take_letters_or_none) (hr.mono (by decide)) (passX (takes_of rfl rfl rfl rfl)) (pa_cons (pv 0) pa_nil)))
     (pss_one (ps_ret (pe_makeD (G_Deed) (hr.mono (by decide)) pass0 (pa_cons (pe_fld (pv 1) rfl) (pa_cons (pe_tup pa_nil) (pa_cons pe_int pa_nil)))))))))
     pss_nil)
     (pss_cons (ps_if (pt_cmpR op_eq (pe_fld (pv 1) rfl) (g_int 18 T.g_SKIP) (nomark _))
     (pss_cons (ps_expr (pe_methD0 (pv 0) T.cl_Reader (G_Reader_take) (hr.mono (by decide)) pass0))
     (pss_cons (ps_set (i := 3) sc_read_deed.nd rfl (Or.inl rfl) (pe_callD (G_take_number) (hr.mono (by decide)) (passX (takes_of rfl rfl rfl rfl)) (pa_cons (pv 0) (pa_cons pe_int (pa_cons pe_int pa_nil)))))
     (pss_one (ps_ret (pe_makeD (G_Deed) (hr.mono (by decide)) pass0 (pa_cons (g_int 18 T.g_SKIP) (pa_cons (pe_tup pa_nil) (pa_cons (pv 3) pa_nil))))))))
     pss_nil)
     (pss_one (ps_raise rfl (takes_of rfl rfl rfl rfl) (pmk_F T rfl G_Fault (hr.mono (by decide)) (pa_cons pe_int (pa_cons (pe_fld (pv 1) rfl) pa_nil)))))))))), ?_⟩)⟩
  · obtain ⟨r, q, l, rfl, _⟩ := h
    rfl
  · obtain ⟨r, q, l, rfl, rs1, g1, k⟩ := h
    obtain ⟨t, m, rfl⟩ := g1.ne
    have hz : Gr.hs (t :: m) = Gr.tokSort t.tok := rfl
    have g2 : Gr.hs (t :: m) ≠ 24 → Gr.Good m := fun z => g1.cons z
    refine ⟨_, rfl, r, _, _, rfl, rs1.ins, rdF_now, r, q, _, _, rfl, rs1, fun a ha => ?_⟩
    refine ⟨_, rfl, _, _, _, _, _, rfl, ha.ins, T.cl_Token, T.na_Token_what, tokF_what, by show 5 ≤ sizeLine; decide, fun p hp => ⟨p, _, rfl, SqTo upd_same, rfl, rfl, _, rfl, ?_⟩⟩
    have s2 : Same H (upd H p (.tup [.int 9, .int 15, .int 16, .int 17, .int 19])) := Same.new hp
    replace rs1 := rs1.same s2
    replace ha := ha.same s2
    replace k := k.more (But.of s2)
    clear s2
    refine ifB (fun e1 => ?_) (fun e1 => ?_)
    · replace e1 : inV (.int (Gr.tokSort t.tok : Int)) ([9, 15, 16, 17, 19].map fun n : Nat => V.int (n : Int)) = true := e1
      rw [in_list, decide_eq_true_iff, ← hz] at e1
      refine ⟨_, rfl, r, _, _, rfl, rs1.ins, rdF_take, r, q, _, _, rfl, rs1, fun H3 b3 rs3 => ?_⟩
      have ha3 := ha.but rs1.apart b3
      refine ⟨_, rfl, _, _, _, _, _, rfl, ha3.ins, T.cl_Token, T.na_Token_what, tokF_what, by show 0 ≤ sizeLine; decide, fun wd hw => ?_⟩
      have fin : ∀ d : Deed, Vaseda.takeDeed (t :: m) = .ok (d, m) → dWhat d = Gr.tokSort t.tok → dWord d = [] → dMany d = 0 → _ := fun d hd h1 h2 h3 =>
        ask_deed (ad := ad) (H := upd H3 wd (.tup [])) (what := (Gr.tokSort t.tok : Int)) (many := 0) (wd := wd) (d := d) (Q := Q) (E := E0) (by unfold deedF deedL; rw [h1, h3]; rfl) (by rw [h2]; exact upd_same) fun x H4 s4 hx => k.2 _ _ hd H4 (b3.same ((Same.new hw).trans s4)) (rs3.same ((Same.new hw).trans s4)) x hx
      have e1' : Gr.hs (t :: m) = 9 ∨ Gr.hs (t :: m) = 15 ∨ Gr.hs (t :: m) = 16 ∨ Gr.hs (t :: m) = 17 ∨ Gr.hs (t :: m) = 19 := by simpa using e1
      rcases e1' with e | e | e | e | e
      · exact fin .delete (by rw [Gr.deed_eq, e]; rfl) (by rw [← hz, e]; rfl) rfl rfl
      · exact fin .keep (by rw [Gr.deed_eq, e]; rfl) (by rw [← hz, e]; rfl) rfl rfl
      · exact fin .bring (by rw [Gr.deed_eq, e]; rfl) (by rw [← hz, e]; rfl) rfl rfl
      · exact fin .trade (by rw [Gr.deed_eq, e]; rfl) (by rw [← hz, e]; rfl) rfl rfl
      · exact fin .halt_ (by rw [Gr.deed_eq, e]; rfl) (by rw [← hz, e]; rfl) rfl rfl
    replace e1 : inV (.int (Gr.tokSort t.tok : Int)) ([9, 15, 16, 17, 19].map fun n : Nat => V.int (n : Int)) = false := e1
    rw [in_list, decide_eq_false_iff_not, ← hz] at e1
    generalize upd H p (.tup [.int 9, .int 15, .int 16, .int 17, .int 19]) = H1 at *
    refine ⟨_, rfl, _, _, _, _, _, rfl, ha.ins, T.cl_Token, T.na_Token_what, tokF_what, by show 3 ≤ sizeLine; decide, fun p hp => ⟨p, _, rfl, SqTo upd_same, rfl, rfl, _, rfl, ?_⟩⟩
    have s2 : Same H1 (upd H1 p (.tup [.int 10, .int 11, .int 12])) := Same.new hp
    replace rs1 := rs1.same s2
    replace ha := ha.same s2
    replace k := k.more (But.of s2)
    clear s2
    refine ifB (fun e2 => ?_) (fun e2 => ?_)
    · replace e2 : inV (.int (Gr.tokSort t.tok : Int)) ([10, 11, 12].map fun n : Nat => V.int (n : Int)) = true := e2
      rw [in_list, decide_eq_true_iff, ← hz] at e2
      have e2' : Gr.hs (t :: m) = 10 ∨ Gr.hs (t :: m) = 11 ∨ Gr.hs (t :: m) = 12 := by simpa using e2
      have gm := g2 (by omega)
      refine ⟨_, rfl, r, _, _, rfl, rs1.ins, rdF_take, r, q, _, _, rfl, rs1, fun H3 b3 rs3 => ?_⟩
      have main : ∀ dd : Bytes → Deed, Vaseda.takeDeed (t :: m) = (Vaseda.takeLetters m).map (fun x => (dd x.1, x.2)) → (∀ x, dWhat (dd x) = Gr.tokSort t.tok) → (∀ x, dWord (dd x) = x) → (∀ x, dMany (dd x) = 0) →
          tSeq (tAsg (tCall (sp_take_letters ad) [] E (tCons (tVar 0) tNil)) (gName 2)) (tRet (tMake ad.cDeed (sp_Deed_init ad) [] E0 (tCons (tFld K (tVar 1) "what") (tCons (tVar 2) (tCons (tC (.int 0)) tNil))))) { nx := fun _ H' => Q .non H', rt := Q } [some (.ref r), some (.ref a), none, none] H3 := fun dd hd h1 h2 h3 => by
        refine ⟨_, rfl, r, q, m, rfl, rs3, gm, fun f hf => (k.1 f (by rw [hd, hf]; rfl)).mono b3, fun x m' hx H4 b4 rs4 wd hw => ?_⟩
        have ha4 := ha.but rs1.apart (b3.trans b4)
        refine ⟨_, rfl, _, _, _, _, _, rfl, ha4.ins, T.cl_Token, T.na_Token_what, tokF_what, _, rfl, ?_⟩
        exact ask_deed (d := dd x) (by unfold deedF deedL; rw [h1, h3]; rfl) (by rw [h2]; exact hw) fun y H5 s5 hy => k.2 _ _ (by rw [hd, hx]; rfl) H5 ((b3.trans b4).same s5) (rs4.same s5) y hy
      rcases e2' with e | e | e
      · exact main .before (by rw [Gr.deed_eq, e]; rfl) (fun _ => by rw [← hz, e]; rfl) (fun _ => rfl) fun _ => rfl
      · exact main .after (by rw [Gr.deed_eq, e]; rfl) (fun _ => by rw [← hz, e]; rfl) (fun _ => rfl) fun _ => rfl
      · exact main .change (by rw [Gr.deed_eq, e]; rfl) (fun _ => by rw [← hz, e]; rfl) (fun _ => rfl) fun _ => rfl
    replace e2 : inV (.int (Gr.tokSort t.tok : Int)) ([10, 11, 12].map fun n : Nat => V.int (n : Int)) = false := e2
    rw [in_list, decide_eq_false_iff_not, ← hz] at e2
    generalize upd H1 p (.tup [.int 10, .int 11, .int 12]) = H2 at *
    refine ⟨_, rfl, _, _, _, _, _, rfl, ha.ins, T.cl_Token, T.na_Token_what, tokF_what, by show 2 ≤ sizeLine; decide, fun p hp => ⟨p, _, rfl, SqTo upd_same, rfl, rfl, _, rfl, ?_⟩⟩
    have s2 : Same H2 (upd H2 p (.tup [.int 13, .int 14])) := Same.new hp
    replace rs1 := rs1.same s2
    replace ha := ha.same s2
    replace k := k.more (But.of s2)
    clear s2
    refine ifB (fun e3 => ?_) (fun e3 => ?_)
    · replace e3 : inV (.int (Gr.tokSort t.tok : Int)) ([13, 14].map fun n : Nat => V.int (n : Int)) = true := e3
      rw [in_list, decide_eq_true_iff, ← hz] at e3
      have e3' : Gr.hs (t :: m) = 13 ∨ Gr.hs (t :: m) = 14 := by simpa using e3
      have gm := g2 (by omega)
      refine ⟨_, rfl, r, _, _, rfl, rs1.ins, rdF_take, r, q, _, _, rfl, rs1, fun H3 b3 rs3 => ?_⟩
      have main : ∀ dd : Bytes → Bytes → Deed, Vaseda.takeDeed (t :: m) = Vaseda.takeTwo dd m → (∀ x y, dWhat (dd x y) = Gr.tokSort t.tok) → (∀ x y, dWord (dd x y) = []) → (∀ x y, dMany (dd x y) = 0) →
          tSeq (tDrop (tCall (sp_take_sort ad) [] E (tCons (tVar 0) (tCons (tC (.int 21)) tNil)))) (tSeq (tDrop (tCall (sp_take_letters_or_none ad) [] E (tCons (tVar 0) tNil))) (tRet (tMake ad.cDeed (sp_Deed_init ad) [] E0 (tCons (tFld K (tVar 1) "what") (tCons (tTup tNil) (tCons (tC (.int 0)) tNil)))))) { nx := fun _ H' => Q .non H', rt := Q } [some (.ref r), some (.ref a), none, none] H3 := fun dd hd h1 h2 h3 => by
        unfold Vaseda.takeTwo at hd
        rw [Gr.takeLetters_eq] at hd
        obtain ⟨t', m1, em⟩ := gm.ne
        refine ⟨_, rfl, r, q, m, 21, rfl, rs3, ⟨t', m1, em⟩, fun e4 => (k.1 _ (by rw [hd, if_neg e4]; rfl)).mono b3, fun e4 H4 b4 rs4 => ?_⟩
        rw [if_pos e4] at hd
        refine ⟨_, rfl, r, q, m.drop 1, rfl, rs4, gm.drop1 (by omega), fun f hf => (k.1 f (by rw [hd]; show Except.map _ (Vaseda.takeInstead (m.drop 1)) = _; rw [hf]; rfl)).mono (b3.trans b4), fun x m' hx H5 b5 rs5 => ?_⟩
        have b35 := (b3.trans b4).trans b5
        have ha5 := ha.but rs1.apart b35
        refine ⟨_, rfl, _, _, _, _, _, rfl, ha5.ins, T.cl_Token, T.na_Token_what, tokF_what, by show 0 ≤ sizeLine; decide, fun wd hw => ?_⟩
        exact ask_deed (d := dd (Gr.hw m) x) (by unfold deedF deedL; rw [h1, h3]; rfl) (by rw [h2]; exact upd_same) fun y H6 s6 hy => k.2 _ _ (by rw [hd]; show Except.map _ (Vaseda.takeInstead (m.drop 1)) = _; rw [hx]; rfl) H6 (b35.same ((Same.new hw).trans s6)) (rs5.same ((Same.new hw).trans s6)) y hy
      rcases e3' with e | e
      · exact main .swap (by rw [Gr.deed_eq, e]; rfl) (fun _ _ => by rw [← hz, e]; rfl) (fun _ _ => rfl) fun _ _ => rfl
      · exact main .first (by rw [Gr.deed_eq, e]; rfl) (fun _ _ => by rw [← hz, e]; rfl) (fun _ _ => rfl) fun _ _ => rfl
    replace e3 : inV (.int (Gr.tokSort t.tok : Int)) ([13, 14].map fun n : Nat => V.int (n : Int)) = false := e3
    rw [in_list, decide_eq_false_iff_not, ← hz] at e3
    generalize upd H2 p (.tup [.int 13, .int 14]) = H3 at *
    refine ⟨_, rfl, _, _, _, _, _, rfl, ha.ins, T.cl_Token, T.na_Token_what, tokF_what, rfl, _, rfl, ?_⟩
    refine ifP (fun e4 => ?_) (fun e4 => ?_)
    · rw [vi_eq] at e4
      have e4' : Gr.hs (t :: m) = 18 := by omega
      have gm := g2 (by omega)
      have hd : Vaseda.takeDeed (t :: m) = (Vaseda.takeNum 1 9 m).map fun x => (.skip x.1, x.2) := by rw [Gr.deed_eq, e4']; rfl
      refine ⟨_, rfl, r, _, _, rfl, rs1.ins, rdF_take, r, q, _, _, rfl, rs1, fun H4 b4 rs4 => ?_⟩
      refine ⟨_, rfl, r, q, m, 1, 9, rfl, rs4, gm, fun f hf => (k.1 f (by rw [hd, hf]; rfl)).mono b4, fun x m' hx H5 b5 rs5 => ?_⟩
      refine ⟨by show 0 ≤ sizeLine; decide, fun wd hw => ⟨_, rfl, ?_⟩⟩
      exact ask_deed (d := .skip x) rfl upd_same fun y H6 s6 hy => k.2 _ _ (by rw [hd, hx]; rfl) H6 ((b4.trans b5).same ((Same.new hw).trans s6)) (rs5.same ((Same.new hw).trans s6)) y hy
    · rw [vi_eq] at e4
      have hd : Vaseda.takeDeed (t :: m) = .error ⟨3, t.place⟩ := by
        rw [Gr.deed_eq]
        simp only [List.mem_cons, List.not_mem_nil, or_false, not_or] at e1 e2 e3
        rw [if_neg e1.1, if_neg e1.2.1, if_neg e1.2.2.1, if_neg e1.2.2.2.1, if_neg e1.2.2.2.2, if_neg e2.1, if_neg e2.2.1, if_neg e2.2.2, if_neg e3.1, if_neg e3.2, if_neg (show ¬ Gr.hs (t :: m) = 18 by omega)]
        rfl
      exact ⟨_, rfl, _, _, _, _, _, rfl, ha.ins, T.cl_Token, T.na_Token_place, tokF_place, (r_raise (c := 3) (k.1 _ hd).flt)⟩
theorem sc_read_command : FnScope N_read_command P_read_command (defScope s_read_command) := ⟨rfl, rfl, rfl, by decide +kernel, rfl, by decide +kernel, by decide +kernel⟩
def sp_read_command (ad : Ad) : Sp := fun vs H Q E => ∃ (r q : PySem.Addr) (l : Toks), vs = [.ref r] ∧ RS ad H r q l ∧ Gr.Good l ∧ Pr ad r q H E (fun c H' => ∀ p, CmdAt ad H' p c → Q (.ref p) H') (Vaseda.takeCmd l)
theorem ok_read_command (T : Txt K mg ad) : OkD P w K mg base (L2.CX P w) 6 "read_command" P_read_command (sp_read_command ad) := by
  obtain ⟨f, fd, hm, F, hb⟩ := T.d_read_command
  have G_Reader_now : OkM P w K mg base CX0 1 ad.cReader "now" P_Reader_now (sp_Reader_now ad) := ok_Reader_now T
  have G_Reader_take : OkM P w K mg base CX0 1 ad.cReader "take" P_Reader_take (sp_Reader_take ad) := ok_Reader_take T
  have G_Address : OkI P w K mg base CX0 1 ad.cAddress "Address" P_Address_init (sp_Address_init ad) := ok_Address_init T
  have G_take_sort : OkD P w K mg base (L2.CX P w) 3 "take_sort" P_take_sort (sp_take_sort ad) := ok_take_sort T
  have G_read_address : OkD P w K mg base (L2.CX P w) 5 "read_address" P_read_address (sp_read_address ad) := ok_read_address T
  have G_read_deed : OkD P w K mg base (L2.CX P w) 5 "read_deed" P_read_deed (sp_read_deed ad) := ok_read_deed T
  refine ⟨f, fd, hm, F.kp, hb, F.okX sc_read_command (fun vs H Q E h => ?_) (fun cdv A outer s H vs Q E hr h => ⟨_, (pss_cons (ps_set (i := 1) sc_read_command.nd rfl (Or.inl rfl) (pe_makeD (G_Address) (hr.mono (by decide)) pass0 (pa_cons pe_int (pa_cons (g_int 1 T.g_ALL) (pa_cons pe_int (pa_cons pe_int (pa_cons (pe_tup pa_nil) pa_nil)))))))
     (pss_cons (ps_if (pt_cmpR op_eq (pe_fld (pe_methD0 (pv 0) T.cl_Reader (G_Reader_now) (hr.mono (by decide)) pass0) rfl) (g_int 0 T.g_IF) (nomark _))
     (pss_cons (ps_expr (pe_methD0 (pv 0) T.cl_Reader (G_Reader_take) (hr.mono (by decide)) pass0))
     (pss_one (ps_set (i := 1) sc_read_command.nd rfl (Or.inl rfl) (pe_callD (G_read_address) (hr.mono (by decide)) (passX (takes_of rfl rfl rfl rfl)) (pa_cons (pv 0) pa_nil)))))
     pss_nil)
     (pss_cons (ps_set (i := 2) sc_read_command.nd rfl (Or.inl rfl) (pe_callD (G_read_deed) (hr.mono (by decide)) (passX (takes_of rfl rfl rfl rfl)) (pa_cons (pv 0) pa_nil)))
     (pss_cons (ps_expr (pe_callD (G_take_sort) (hr.mono (by decide)) (passX (takes_of rfl rfl rfl rfl)) (pa_cons (pv 0) (pa_cons (g_int 23 T.g_SEMICOLON) pa_nil))))
     (pss_one (ps_ret (pe_tup (pa_cons (pv 1) (pa_cons (pv 2) pa_nil))))))))), ?_⟩)⟩
  · obtain ⟨r, q, l, rfl, _⟩ := h
    rfl
  · obtain ⟨r, q, l, rfl, rs, g, k⟩ := h
    rw [Gr.cmd_eq] at k
    obtain ⟨t, m, rfl⟩ := g.ne
    have hz : Gr.hs (t :: m) = Gr.tokSort t.tok := rfl
    refine ⟨by show 0 ≤ sizeLine; decide, fun wd hw => ?_⟩
    intro x dx nx nd ne
    refine ⟨x, dx, wd, 0, 1, 0, 0, rfl, upd_same, fun H1 bt e1 => ⟨rfl, ?_⟩⟩
    have s1 : Same H H1 := (Same.new hw).trans (mk_same nx nd bt)
    have hA : AddrAt ad H1 x .all := ⟨dx, wd, e1, mk_same nx nd bt _ _ upd_same⟩
    replace rs := rs.same s1
    replace k := k.more (But.of s1)
    clear s1 bt e1 nd nx ne hw
    have rest : ∀ (A : Vaseda.Addr) (l' : Toks) (H2 : Hp) (y : PySem.Addr), RS ad H2 r q l' → Gr.Good l' → AddrAt ad H2 y A → Pr ad r q H2 E (fun c H' => ∀ p, CmdAt ad H' p c → Q (.ref p) H') ((Vaseda.takeDeed l').bind fun d => (VasedBase.takeSign 59 d.2).map fun m => ((⟨A, d.1⟩ : Cmd), m)) →
        tSeq (tAsg (tCall (sp_read_deed ad) [] E (tCons (tVar 0) tNil)) (gName 2)) (tSeq (tDrop (tCall (sp_take_sort ad) [] E (tCons (tVar 0) (tCons (tC (.int 23)) tNil)))) (tRet (tTup (tCons (tVar 1) (tCons (tVar 2) tNil))))) { nx := fun _ H' => Q .non H', rt := Q } [some (.ref r), some (.ref y), none] H2 := fun A l' H2 y rs2 g2 hy k2 => by
      refine ⟨_, rfl, r, q, l', rfl, rs2, g2, fun f hf => k2.1 f (by rw [hf]; rfl), fun d m' hd H3 b3 rs3 z hz => ?_⟩
      have gd := Gr.good_deed g2 hd
      rw [hd] at k2
      replace k2 := k2.more b3
      replace k2 : Pr ad r q H3 E (fun c H' => ∀ p, CmdAt ad H' p c → Q (.ref p) H') ((VasedBase.takeSign 59 m').map fun m => ((⟨A, d⟩ : Cmd), m)) := k2
      rw [Gr.takeSign_eq gd] at k2
      obtain ⟨t', m1, em⟩ := gd.ne
      refine ⟨_, rfl, r, q, m', 23, rfl, rs3, ⟨t', m1, em⟩, fun e4 => k2.1 _ (by rw [if_neg e4]; rfl), fun e4 H4 b4 rs4 => ?_⟩
      rw [if_pos e4] at k2
      refine ⟨_, rfl, _, rfl, by show 2 ≤ sizeLine; decide, fun p hp => ?_⟩
      have s5 := Same.new (o := .tup [.ref y, .ref z]) hp
      exact k2.2 _ _ rfl _ (b4.same s5) (rs4.same s5) p ⟨y, z, upd_same, ((hy.but rs2.apart b3).but rs3.apart b4).same s5, (hz.but rs3.apart b4).same s5⟩
    refine ⟨_, rfl, r, _, _, rfl, rs.ins, rdF_now, r, q, _, _, rfl, rs, fun a ha => ?_⟩
    refine ⟨_, _, _, _, _, rfl, ha.ins, T.cl_Token, T.na_Token_what, tokF_what, rfl, _, rfl, ?_⟩
    refine ifP (fun e2 => ?_) (fun e2 => ?_)
    · rw [vi_eq] at e2
      have e2' : Gr.hs (t :: m) = 0 := by omega
      rw [if_pos e2'] at k
      have gm : Gr.Good m := g.cons (by rw [← hz, e2']; decide)
      refine ⟨_, rfl, r, _, _, rfl, rs.ins, rdF_take, r, q, _, _, rfl, rs, fun H2 b2 rs2 => ?_⟩
      replace k := k.more b2
      refine ⟨_, rfl, r, q, m, rfl, rs2, gm, fun f hf => k.1 f (by show Except.bind (Vaseda.takeAddr (m.length + 1) 0 m) _ = _; rw [hf]; rfl), fun A m' hA' H3 b3 rs3 y hy => ?_⟩
      refine rest A m' H3 y rs3 (Gr.good_addr gm hA') hy ?_
      have k3 := k.more b3
      rw [show (t :: m).drop 1 = m from rfl, hA'] at k3
      exact k3
    · rw [vi_eq] at e2
      rw [if_neg (show ¬ Gr.hs (t :: m) = 0 by omega)] at k
      exact rest .all (t :: m) H1 x rs g hA k
theorem sc_read_script : FnScope N_read_script P_read_script (defScope s_read_script) := ⟨rfl, rfl, rfl, by decide +kernel, rfl, by decide +kernel, by decide +kernel⟩
def sp_read_script (ad : Ad) : Sp := fun vs H Q E => ∃ (a : PySem.Addr) (b : Bytes), vs = [.ref a] ∧ H a = some (.lst (vl b)) ∧ b.length ≤ 20000 ∧ (∀ f, Vaseda.read b = .error f → Flt ad H E f) ∧
  (∀ s, Vaseda.read b = .ok s → ∀ H' p, Same H H' → H p = none → CmdsAt ad H' p s → Q (.ref p) H')
theorem ok_read_script (T : Txt K mg ad) : OkD P w K mg base (L2.CX P w) 7 "read_script" P_read_script (sp_read_script ad) := by
  obtain ⟨f, fd, hm, F, hb⟩ := T.d_read_script
  have G_Reader_now : OkM P w K mg base CX0 1 ad.cReader "now" P_Reader_now (sp_Reader_now ad) := ok_Reader_now T
  have G_Fault : OkE P w K mg base CX0 1 ad.cFault P_Fault_init (sp_Fault_init ad) := ok_Fault_init T
  have G_Reader : OkI P w K mg base CX0 1 ad.cReader "Reader" P_Reader_init (sp_Reader_init ad) := ok_Reader_init T
  have G_read_tokens : OkD P w K mg base (L2.CX P w) 5 "read_tokens" P_read_tokens (sp_read_tokens ad) := ok_read_tokens T
  have G_read_command : OkD P w K mg base (L2.CX P w) 6 "read_command" P_read_command (sp_read_command ad) := ok_read_command T
  refine ⟨f, fd, hm, F.kp, hb, F.okX sc_read_script (fun vs H Q E h => ?_) (fun cdv A outer s H vs Q E hr h => ⟨_, (pss_cons (ps_if (pt_cmpR op_gt (pe_callB call_len_seq (by rfl) T.n_len PySem.boot_len (pa_cons (pv 0) pa_nil)) pe_int (nomark _))
     (pss_one (ps_raise rfl (takes_of rfl rfl rfl rfl) (pmk_F T rfl G_Fault (hr.mono (by decide)) (pa_cons pe_int (pa_cons pe_int pa_nil)))))
     pss_nil)
     (pss_cons (ps_set (i := 1) sc_read_script.nd rfl (Or.inl rfl) (pe_makeD (G_Reader) (hr.mono (by decide)) pass0 (pa_cons (pe_callD (G_read_tokens) (hr.mono (by decide)) (passX (takes_of rfl rfl rfl rfl)) (pa_cons (pv 0) pa_nil)) pa_nil)))
     (pss_cons (ps_set (i := 2) sc_read_script.nd rfl (Or.inl rfl) (pe_lst pa_nil))
     (pss_cons (ps_for (passes_of rfl) rfl (pi_range1 rfl T.n_range (pa_cons pe_int pa_nil)) (pg_name (i := 3) sc_read_script.nd rfl (Or.inl rfl))
     (pss_cons (ps_if (pt_cmpR op_eq (pe_fld (pe_methD0 (pv 1) T.cl_Reader (G_Reader_now) (hr.mono (by decide)) pass0) rfl) (g_int 24 T.g_END) (nomark _))
     (pss_one (ps_ret (pv 2)))
     pss_nil)
     (pss_one (ps_expr (pe_bm PySem.F.plainAttrs_list PySem.F.slot_list_append PySem.F.type_list_append mt_append (pv 2) (pa_cons (pe_callD (G_read_command) (hr.mono (by decide)) (passX (takes_of rfl rfl rfl rfl)) (pa_cons (pv 1) pa_nil)) pa_nil))))))
     (pss_cons (ps_if (pt_cmpR op_ne (pe_fld (pe_methD0 (pv 1) T.cl_Reader (G_Reader_now) (hr.mono (by decide)) pass0) rfl) (g_int 24 T.g_END) (nomark _))
     (pss_one (ps_raise rfl (takes_of rfl rfl rfl rfl) (pmk_F T rfl G_Fault (hr.mono (by decide)) (pa_cons pe_int (pa_cons (pe_fld (pe_methD0 (pv 1) T.cl_Reader (G_Reader_now) (hr.mono (by decide)) pass0) rfl) pa_nil)))))
     pss_nil)
     (pss_one (ps_ret (pv 2)))))))), ?_⟩)⟩
  · obtain ⟨a, b, rfl, _⟩ := h
    rfl
  · obtain ⟨a, b, rfl, hB, hl, kf, ks⟩ := h
    refine ⟨_, rfl, a, _, rfl, SqLo hB, _, _, rfl, rfl, _, rfl, ?_⟩
    rw [vl_length]
    have hread : Vaseda.read b = (VasedBase.tokens b).bind fun l => Vaseda.takeCmds (l.length + 1) [] l := rfl
    refine ifP (fun e1 => ?_) (fun e1 => ?_)
    · exact r_raise (c := 1) (p := 4096) (kf ⟨1, 4096⟩ (by
        rw [hread]
        unfold VasedBase.tokens
        rw [if_pos (show VasedBase.TEXT < b.length from by show 4096 < b.length; omega)]
        rfl))
    rw [Gr.tokens_LX (by omega)] at hread
    refine ⟨_, rfl, a, b, rfl, hB, hl, fun f hf => kf f (by rw [hread, hf]; rfl), fun l hl2 H1 q s1 hq => ?_⟩
    have gl := Gr.LX_good hl2
    rw [hl2] at hread
    replace hread : Vaseda.read b = Vaseda.takeCmds (l.length + 1) [] l := hread
    intro x dx nx nd ne
    refine ⟨x, dx, q, rfl, upd_same, fun H2 bt e2 => ⟨rfl, ?_⟩⟩
    have s2 : Same H1 H2 := mk_same nx nd bt
    have rs : RS ad H2 x q l := ⟨dx, l, 0, e2, hq.same s2, rfl⟩
    have nx0 : H x = none := s1.free nx
    refine ⟨by show 0 ≤ sizeLine; decide, fun c hc => ?_⟩
    have nc0 : H c = none := (s1.trans s2).free hc
    have nxc : x ≠ c := ne_of_none e2 hc
    have nqc : q ≠ c := by
      obtain ⟨as, eq, _⟩ := hq.same s2
      exact ne_of_none eq hc
    have s3 : Same H (upd H2 c (.lst [])) := (s1.trans s2).trans (Same.new hc)
    refine ⟨16, rfl, by decide, by decide, for_range (fun i σ H' => ∃ (v : Option V) (as : List PySem.Addr) (cs : Script) (l' : Toks) (n : Nat), σ = [some (.ref a), some (.ref x), some (.ref c), v] ∧ Same H H' ∧ RS ad H' x q l' ∧ Gr.Good l' ∧ H' c = some (.lst (as.map V.ref)) ∧ Paired (CmdAt ad H') as cs ∧ cs.length = i ∧ l'.length ≤ n ∧
      Vaseda.read b = Vaseda.takeCmds (n + 1) cs l') ⟨none, [], [], l, l.length, rfl, s3, rs.same (Same.new hc), gl, upd_same, .nil, rfl, Nat.le_refl _, hread⟩ ?_ ?_⟩
    · rintro i σ H' hi ⟨v, as, cs, l', n, rfl, s4, rs', g', hC, hP, hi2, hn, er⟩
      have hi' : i < 16 := hi
      obtain ⟨t, m, rfl⟩ := g'.ne
      rw [Gr.cmds_eq] at er
      have hasl : as.length = cs.length := Paired.length hP
      refine ⟨_, rfl, x, _, _, rfl, rs'.ins, rdF_now, x, q, _, _, rfl, rs', fun y hy => ⟨_, _, _, _, _, rfl, hy.ins, T.cl_Token, T.na_Token_what, tokF_what, rfl, _, rfl, ?_⟩⟩
      have hz : Gr.hs (t :: m) = Gr.tokSort t.tok := rfl
      refine ifP (fun e3 => ?_) (fun e3 => ?_)
      · rw [vi_eq] at e3
        rw [if_pos (show Gr.hs (t :: m) = 24 by omega)] at er
        exact ⟨_, rfl, ks cs er H' c s4 nc0 ⟨as, hC, hP⟩⟩
      · rw [vi_eq] at e3
        rw [if_neg (show ¬ Gr.hs (t :: m) = 24 by omega), if_neg (show ¬ 16 ≤ cs.length by omega)] at er
        refine ⟨_, rfl, tyL hC, _, rfl, x, q, _, rfl, rs', g', fun f hf => Flt.toB s4 nx0 (kf f (by rw [er, hf]; rfl)), fun cm m' hcm H3 b3 rs3 p hp => ?_⟩
        have g3 := Gr.good_cmd g' hcm
        have lt := Gr.lt_cmd g' hcm
        rw [hcm] at er
        replace er : Vaseda.read b = Vaseda.takeCmds n (cs ++ [cm]) m' := er
        have hC3 : H3 c = some (.lst (as.map V.ref)) := b3 c _ (Ne.symm nxc) hC
        refine ⟨c, _, _, rfl, rfl, hC3, by rw [List.length_map]; exact smallL (by omega), ?_⟩
        have A := Apart.lst hC3
        have s5 : Same H (upd H3 c (.lst (as.map V.ref ++ [.ref p]))) := Same.mut (Same.but s4 b3 nx0) nc0
        obtain ⟨n', rfl⟩ : ∃ n', n = n' + 1 := ⟨n - 1, by
          have : (t :: m).length = m.length + 1 := rfl
          omega⟩
        refine ⟨_, as ++ [p], cs ++ [cm], m', n', rfl, s5, rs3.but2 A But.upd nxc nqc, g3, upd_same.trans (by rw [List.map_append]; rfl), paired_app (F := CmdAt ad (upd H3 c (.lst (as.map V.ref ++ [.ref p])))) (.cons (hp.but A But.upd) .nil) (Paired.mapP hP fun _ _ z => (z.but rs'.apart b3).but A But.upd), ?_, by omega, er⟩
        rw [List.length_append]
        show cs.length + 1 = i + 1
        omega
    · rintro σ H' ⟨v, as, cs, l', n, rfl, s4, rs', g', hC, hP, hi2, hn, er⟩
      have hi16 : cs.length = 16 := hi2
      obtain ⟨t, m, rfl⟩ := g'.ne
      rw [Gr.cmds_eq] at er
      refine ⟨_, rfl, x, _, _, rfl, rs'.ins, rdF_now, x, q, _, _, rfl, rs', fun y hy => ⟨_, _, _, _, _, rfl, hy.ins, T.cl_Token, T.na_Token_what, tokF_what, rfl, _, rfl, ?_⟩⟩
      have hz : Gr.hs (t :: m) = Gr.tokSort t.tok := rfl
      refine ifN (fun e3 => ?_) (fun e3 => ?_)
      · rw [vi_eq] at e3
        rw [if_neg (show ¬ Gr.hs (t :: m) = 24 by omega), if_pos (show 16 ≤ cs.length by omega)] at er
        exact ⟨_, rfl, x, _, _, rfl, rs'.ins, rdF_now, x, q, _, _, rfl, rs', fun y hy => ⟨_, _, _, _, _, rfl, hy.ins, T.cl_Token, T.na_Token_place, tokF_place, r_raise (c := 4) ((kf ⟨4, t.place⟩ er).mono s4)⟩⟩
      · rw [vi_eq] at e3
        rw [if_pos (show Gr.hs (t :: m) = 24 by omega)] at er
        exact ⟨_, rfl, ks cs er H' c s4 nc0 ⟨as, hC, hP⟩⟩
end
end Lw

/-! plain -/
namespace Lw
open PySem PySem.Spec PyProof.Rows L2
open VasedBase (Bytes PTok Toks)
open Vaseda (Deed Cmd Script Line)

theorem words_what : ∀ A : Vaseda.Addr, Vasedb.wordsOf A = if aWhat A = 6 then [aWord A] else []
  | .all => rfl
  | .line _ => rfl
  | .span _ _ => rfl
  | .last => rfl
  | .has w => rfl
  | .is_ w => rfl
  | .not a => words_what a
theorem just_what : ∀ A : Vaseda.Addr, Vasedb.justOf A = if aWhat A = 7 then [aWord A] else []
  | .all => rfl
  | .line _ => rfl
  | .span _ _ => rfl
  | .last => rfl
  | .has w => rfl
  | .is_ w => rfl
  | .not a => just_what a
theorem put_what (d : Deed) : Vasedb.putOf d = if dWhat d ∈ [10, 11, 12] then [dWord d] else [] := by cases d <;> rfl
theorem plain_what (d : Deed) : Vasedb.plainDeed d = !decide (dWhat d ∈ [13, 14, 15, 16, 17]) := by cases d <;> rfl
theorem nNot_nn : ∀ A : Vaseda.Addr, nNot A = Rn.nn A
  | .all => rfl
  | .line _ => rfl
  | .span _ _ => rfl
  | .last => rfl
  | .has w => rfl
  | .is_ w => rfl
  | .not a => congrArg (· + 1) (nNot_nn a)
theorem take_snoc {α : Type} {l : List α} {i : Nat} {x : α} (h : l[i]? = some x) : l.take (i + 1) = l.take i ++ [x] := by
  rw [List.take_add_one, h]
  rfl
theorem add_len (l : List Bytes) (x : Bytes) : (Rn.add l x).length ≤ l.length + 1 := by
  unfold Rn.add
  split
  · omega
  · rw [List.length_append]
    exact Nat.le_refl _
theorem sum_snoc (l : List Bytes) (x : Bytes) : ((l ++ [x]).map fun w => w.length).sum = (l.map fun w => w.length).sum + x.length := by
  rw [List.map_append, List.sum_append]
  rfl
/-- what a loop over the commands knows of a turn -/
theorem cmd_at {ad : Ad} {H : Hp} {as : List PySem.Addr} {s : Script} {i : Nat} {v : V} (h : (as.map V.ref)[i]? = some v) (r : Paired (CmdAt ad H) as s) : ∃ p c pa pd, v = .ref p ∧ s[i]? = some c ∧ H p = some (.tup [.ref pa, .ref pd]) ∧ AddrAt ad H pa c.a ∧ DeedAt ad H pd c.d := by
  obtain ⟨p, hp, e⟩ := map_ref_at h
  obtain ⟨c, hc, pa, pd, e1, e2, e3⟩ := paired_get r hp
  exact ⟨p, c, pa, pd, e, hc, e1, e2, e3⟩
section
variable {P : Program} {w : World} {K : PySem.W.Frag} {mg : Str → Option Value} {base : Heap} {ad : Ad}
theorem sc_looked_for : FnScope N_looked_for P_looked_for (defScope s_looked_for) := ⟨rfl, rfl, rfl, by decide +kernel, rfl, by decide +kernel, by decide +kernel⟩
def sp_looked_for (ad : Ad) : Sp := fun vs H Q _ => ∃ (c : PySem.Addr) (s : Script), vs = [.ref c] ∧ CmdsAt ad H c s ∧ s.length ≤ 64 ∧ ∀ H' p, Same H H' → H p = none → LinesL H' p (Vasedb.hasWords s) → Q (.ref p) H'
theorem ok_looked_for (T : Txt K mg ad) : OkD P w K mg base CX0 1 "looked_for" P_looked_for (sp_looked_for ad) := by
  obtain ⟨f, fd, hm, F, hb⟩ := T.d_looked_for
  refine ⟨f, fd, hm, F.kp, hb, F.ok sc_looked_for (fun vs H Q E h => ?_) (fun cdv A outer s H vs Q E hr h => ⟨_, (pss_cons (ps_set (i := 1) sc_looked_for.nd rfl (Or.inl rfl) (pe_lst pa_nil))
     (pss_cons (ps_for PassesOwn.never rfl (pi_list (pv 0)) (pg_tup rfl (pgs_cons (pg_name (i := 2) sc_looked_for.nd rfl (Or.inl rfl)) (pgs_cons (pg_name (i := 3) sc_looked_for.nd rfl (Or.inl rfl)) pgs_nil)))
     (pss_one (ps_if (PW.pt (pw_and (pt_cmpR op_eq (pe_fld (pv 2) rfl) (g_int 6 T.g_HAS) (nomark _)) (pw_and1 (pt_cmpR (op_notInD (hu65 hr)) (pe_fld (pv 2) rfl) (pv 1) (by rfl)))))
     (pss_one (ps_expr (pe_bm PySem.F.plainAttrs_list PySem.F.slot_list_append PySem.F.type_list_append mt_append (pv 1) (pa_cons (pe_fld (pv 2) rfl) pa_nil))))
     pss_nil)))
     (pss_one (ps_ret (pv 1))))), ?_⟩)⟩
  · obtain ⟨c, s, rfl, _⟩ := h
    rfl
  · obtain ⟨c, s, rfl, ⟨as, hC, hP⟩, hl, k⟩ := h
    have las : as.length = s.length := Paired.length hP
    refine ⟨by show 0 ≤ sizeLine; decide, fun l nl => ?_⟩
    have s0 : Same H (upd H l (.lst [])) := Same.new nl
    refine ⟨_, rfl, c, rfl, ⟨_, SqL.of (s0 _ _ hC)⟩, for_list (K := K) (a := c) (xs := as.map V.ref) (fun i σ H' => ∃ (v1 v2 : Option V) (bs : List PySem.Addr), σ = [some (.ref c), some (.ref l), v1, v2] ∧ Same H H' ∧ H' l = some (.lst (bs.map V.ref)) ∧ LinesR H' bs ((s.take i).foldl Rn.hasAdd []) ∧ bs.length ≤ i)
      ⟨none, none, [], rfl, s0, upd_same, .nil, Nat.le_refl _⟩ (fun i σ H' _ ⟨_, _, _, _, s1, _⟩ => SqL.of (s1 _ _ hC)) ?_ ?_⟩
    · rintro i v σ H' hi ⟨v1, v2, bs, rfl, s1, hL, hR, hn⟩
      obtain ⟨p, cm, pa, pd, rfl, hc, e1, e2, e3⟩ := cmd_at hi hP
      have i64 : i < 64 := by have := (List.getElem?_eq_some_iff.mp hc).1; omega
      replace e1 := s1 _ _ e1
      replace e2 := e2.same s1
      have step : (s.take (i + 1)).foldl Rn.hasAdd [] = Rn.hasAdd ((s.take i).foldl Rn.hasAdd []) cm := by rw [take_snoc hc, List.foldl_append]; rfl
      refine ⟨p, _, rfl, SqT.of e1, rfl, .ref pa, _, rfl, .ref pd, _, rfl, rfl, ?_⟩
      refine ⟨_, rfl, _, _, _, _, _, rfl, e2.ins, T.cl_Address, T.na_Address_what, addrF_what, rfl, _, rfl, ?_⟩
      refine ifP (fun c1 => ?_) (fun c1 => ?_)
      · rw [vi_eq] at c1
        have hw : Vasedb.wordsOf cm.a = [aWord cm.a] := by rw [words_what, if_pos (by omega)]
        refine ⟨_, rfl, _, _, _, _, _, rfl, e2.ins, T.cl_Address, T.na_Address_word, addrF_word, _, rfl, dl (aWord cm.a), _, dp_line e2.word, dp_linesL ⟨bs, hL, hR⟩, dl_sh _, dls_shL _, _, rfl, ?_⟩
        rw [any_eqv]
        refine ifB (fun c2 => ?_) (fun c2 => ?_)
        · have c2' : ((s.take i).foldl Rn.hasAdd []).contains (aWord cm.a) = false := by simpa using c2
          refine ⟨_, rfl, tyL hL, _, rfl, _, _, _, _, _, rfl, e2.ins, T.cl_Address, T.na_Address_word, addrF_word, l, _, _, rfl, rfl, hL, by rw [List.length_map]; exact smallL (by omega), ?_⟩
          have Ap := Apart.lst hL
          refine ⟨_, _, bs ++ [e2.wd], rfl, Same.mut s1 nl, upd_same.trans (by rw [List.map_append]; rfl), ?_, by rw [List.length_append]; exact Nat.succ_le_succ hn⟩
          rw [step, Rn.hasAdd, hw]
          show LinesR _ _ (Rn.add _ _)
          unfold Rn.add
          rw [if_neg (by rw [c2']; exact Bool.false_ne_true)]
          exact (hR.but Ap But.upd).snoc (Ap.line But.upd e2.word)
        · have c2' : ((s.take i).foldl Rn.hasAdd []).contains (aWord cm.a) = true := by simpa using c2
          refine ⟨_, _, bs, rfl, s1, hL, ?_, Nat.le_succ_of_le hn⟩
          rw [step, Rn.hasAdd, hw]
          show LinesR _ _ (Rn.add _ _)
          unfold Rn.add
          rw [if_pos c2']
          exact hR
      · rw [vi_eq] at c1
        have hw : Vasedb.wordsOf cm.a = [] := by rw [words_what, if_neg (by omega)]
        refine ⟨_, _, bs, rfl, s1, hL, ?_, Nat.le_succ_of_le hn⟩
        rw [step, Rn.hasAdd, hw]
        exact hR
    · rintro σ H' ⟨v1, v2, bs, rfl, s1, hL, hR, hn⟩
      rw [List.length_map, las, List.take_length, ← Rn.has_eq] at hR
      exact ⟨_, rfl, k H' l s1 nl ⟨bs, hL, hR⟩⟩
theorem sc_own_words : FnScope N_own_words P_own_words (defScope s_own_words) := ⟨rfl, rfl, rfl, by decide +kernel, rfl, by decide +kernel, by decide +kernel⟩
def sp_own_words (ad : Ad) : Sp := fun vs H Q _ => ∃ (c : PySem.Addr) (s : Script), vs = [.ref c] ∧ CmdsAt ad H c s ∧ s.length ≤ 64 ∧ ∀ H' p, Same H H' → H p = none → LinesL H' p (Vasedb.ownWords s) → Q (.ref p) H'
theorem ok_own_words (T : Txt K mg ad) : OkD P w K mg base CX0 1 "own_words" P_own_words (sp_own_words ad) := by
  obtain ⟨f, fd, hm, F, hb⟩ := T.d_own_words
  refine ⟨f, fd, hm, F.kp, hb, F.ok sc_own_words (fun vs H Q E h => ?_) (fun cdv A outer s H vs Q E hr h => ⟨_, (pss_cons (ps_set (i := 1) sc_own_words.nd rfl (Or.inl rfl) (pe_lst pa_nil))
     (pss_cons (ps_for PassesOwn.never rfl (pi_list (pv 0)) (pg_tup rfl (pgs_cons (pg_name (i := 2) sc_own_words.nd rfl (Or.inl rfl)) (pgs_cons (pg_name (i := 3) sc_own_words.nd rfl (Or.inl rfl)) pgs_nil)))
     (pss_cons (ps_if (PW.pt (pw_and (pt_cmpR op_eq (pe_fld (pv 2) rfl) (g_int 7 T.g_IS) (nomark _)) (pw_and1 (pt_cmpR (op_notInD (hu65 hr)) (pe_fld (pv 2) rfl) (pv 1) (by rfl)))))
     (pss_one (ps_expr (pe_bm PySem.F.plainAttrs_list PySem.F.slot_list_append PySem.F.type_list_append mt_append (pv 1) (pa_cons (pe_fld (pv 2) rfl) pa_nil))))
     pss_nil)
     (pss_one (ps_if (PW.pt (pw_and (pt_cmpR op_in_seq (pe_fld (pv 3) rfl) (pe_tup (pa_cons (g_int 10 T.g_BEFORE) (pa_cons (g_int 11 T.g_AFTER) (pa_cons (g_int 12 T.g_CHANGE) pa_nil)))) (by rfl)) (pw_and1 (pt_cmpR (op_notInD (hu65 hr)) (pe_fld (pv 3) rfl) (pv 1) (by rfl)))))
     (pss_one (ps_expr (pe_bm PySem.F.plainAttrs_list PySem.F.slot_list_append PySem.F.type_list_append mt_append (pv 1) (pa_cons (pe_fld (pv 3) rfl) pa_nil))))
     pss_nil))))
     (pss_one (ps_ret (pv 1))))), ?_⟩)⟩
  · obtain ⟨c, s, rfl, _⟩ := h
    rfl
  · obtain ⟨c, s, rfl, ⟨as, hC, hP⟩, hl, k⟩ := h
    have las : as.length = s.length := Paired.length hP
    refine ⟨by show 0 ≤ sizeLine; decide, fun l nl => ?_⟩
    have s0 : Same H (upd H l (.lst [])) := Same.new nl
    refine ⟨_, rfl, c, rfl, ⟨_, SqL.of (s0 _ _ hC)⟩, for_list (K := K) (a := c) (xs := as.map V.ref) (fun i σ H' => ∃ (v1 v2 : Option V) (bs : List PySem.Addr), σ = [some (.ref c), some (.ref l), v1, v2] ∧ Same H H' ∧ H' l = some (.lst (bs.map V.ref)) ∧ LinesR H' bs ((s.take i).foldl Rn.ownAdd []) ∧ bs.length ≤ 2 * i)
      ⟨none, none, [], rfl, s0, upd_same, .nil, Nat.le_refl _⟩ (fun i σ H' _ ⟨_, _, _, _, s1, _⟩ => SqL.of (s1 _ _ hC)) ?_ ?_⟩
    · rintro i v σ H' hi ⟨v1, v2, bs, rfl, s1, hL, hR, hn⟩
      obtain ⟨p, cm, pa, pd, rfl, hc, e1, e2, e3⟩ := cmd_at hi hP
      have i64 : i < 64 := by have := (List.getElem?_eq_some_iff.mp hc).1; omega
      replace e1 := s1 _ _ e1
      replace e2 := e2.same s1
      replace e3 := e3.same s1
      have step : (s.take (i + 1)).foldl Rn.ownAdd [] = (Vasedb.putOf cm.d).foldl Rn.add ((Vasedb.justOf cm.a).foldl Rn.add ((s.take i).foldl Rn.ownAdd [])) := by
        rw [take_snoc hc, List.foldl_append]
        show (Vasedb.justOf cm.a ++ Vasedb.putOf cm.d).foldl Rn.add _ = _
        rw [List.foldl_append]
      -- the second half of a turn, from the words behind the first
      have half : ∀ (H1 : Hp) (bs1 : List PySem.Addr), Same H H1 → H1 l = some (.lst (bs1.map V.ref)) → LinesR H1 bs1 ((Vasedb.justOf cm.a).foldl Rn.add ((s.take i).foldl Rn.ownAdd [])) → bs1.length ≤ 2 * i + 1 → DeedAt ad H1 pd cm.d → ∀ {D : Ends},
          (∀ H2 bs2, Same H H2 → H2 l = some (.lst (bs2.map V.ref)) → LinesR H2 bs2 ((s.take (i + 1)).foldl Rn.ownAdd []) → bs2.length ≤ 2 * (i + 1) → D.nx [some (.ref c), some (.ref l), some (.ref pa), some (.ref pd)] H2) →
          tIfS (tAnd (tTest (tOp (rIn K false) (tFld K (tVar 3) "what") (tTup (tCons (tC (.int 10)) (tCons (tC (.int 11)) (tCons (tC (.int 12)) tNil)))))) (tTest (tOp (rNotInD K) (tFld K (tVar 3) "word") (tVar 1)))) (tDrop (tBM K "list" rAppend (tVar 1) (tCons (tFld K (tVar 3) "word") tNil))) tNext D [some (.ref c), some (.ref l), some (.ref pa), some (.ref pd)] H1 := by
        intro H1 bs1 t1 hL1 hR1 hn1 e3 D kD
        refine ⟨_, rfl, _, _, _, _, _, rfl, e3.ins, T.cl_Deed, T.na_Deed_what, deedF_what, by show 3 ≤ sizeLine; decide, fun tp htp => ⟨tp, _, rfl, SqTo upd_same, rfl, rfl, _, rfl, ?_⟩⟩
        have t2 : Same H1 (upd H1 tp (.tup [.int 10, .int 11, .int 12])) := Same.new htp
        refine ifB (fun c1 => ?_) (fun c1 => ?_)
        · replace c1 : inV (.int (dWhat cm.d : Int)) ([10, 11, 12].map fun n : Nat => V.int (n : Int)) = true := c1
          rw [in_list, decide_eq_true_iff] at c1
          have hw : Vasedb.putOf cm.d = [dWord cm.d] := by rw [put_what, if_pos c1]
          replace e3 := e3.same t2
          replace t1 := t1.trans t2
          replace hL1 := t2 _ _ hL1
          replace hR1 := hR1.same t2
          refine ⟨_, rfl, _, _, _, _, _, rfl, e3.ins, T.cl_Deed, T.na_Deed_word, deedF_word, _, rfl, dl (dWord cm.d), _, dp_line e3.word, dp_linesL ⟨bs1, hL1, hR1⟩, dl_sh _, dls_shL _, _, rfl, ?_⟩
          rw [any_eqv]
          refine ifB (fun c2 => ?_) (fun c2 => ?_)
          · have c2' : ((Vasedb.justOf cm.a).foldl Rn.add ((s.take i).foldl Rn.ownAdd [])).contains (dWord cm.d) = false := by simpa using c2
            refine ⟨_, rfl, tyL hL1, _, rfl, _, _, _, _, _, rfl, e3.ins, T.cl_Deed, T.na_Deed_word, deedF_word, l, _, _, rfl, rfl, hL1, by rw [List.length_map]; exact smallL (by omega), ?_⟩
            have Ap := Apart.lst hL1
            refine kD _ (bs1 ++ [e3.wd]) (Same.mut t1 nl) (upd_same.trans (by rw [List.map_append]; rfl)) ?_ (by rw [List.length_append]; show bs1.length + 1 ≤ _; omega)
            rw [step, hw]
            show LinesR _ _ (Rn.add _ _)
            rw [show ∀ (l : List Bytes) (x : Bytes), l.contains x = false → Rn.add l x = l ++ [x] from fun l x e => if_neg (by rw [e]; exact Bool.false_ne_true)]
            case a => exact c2'
            exact (hR1.but Ap But.upd).snoc (Ap.line But.upd e3.word)
          · have c2' : ((Vasedb.justOf cm.a).foldl Rn.add ((s.take i).foldl Rn.ownAdd [])).contains (dWord cm.d) = true := by simpa using c2
            refine kD _ bs1 t1 hL1 ?_ (by omega)
            rw [step, hw]
            show LinesR _ _ (Rn.add _ _)
            rw [Rn.add, if_pos c2']
            exact hR1
        · replace c1 : inV (.int (dWhat cm.d : Int)) ([10, 11, 12].map fun n : Nat => V.int (n : Int)) = false := c1
          rw [in_list, decide_eq_false_iff_not] at c1
          have hw : Vasedb.putOf cm.d = [] := by rw [put_what, if_neg c1]
          refine kD _ bs1 (t1.trans t2) (t2 _ _ hL1) ?_ (by omega)
          rw [step, hw]
          exact hR1.same t2
      refine ⟨p, _, rfl, SqT.of e1, rfl, .ref pa, _, rfl, .ref pd, _, rfl, rfl, ?_⟩
      have fin : ∀ H2 bs2, Same H H2 → H2 l = some (.lst (bs2.map V.ref)) → LinesR H2 bs2 ((s.take (i + 1)).foldl Rn.ownAdd []) → bs2.length ≤ 2 * (i + 1) → ∃ (v1 v2 : Option V) (bs : List PySem.Addr), [some (V.ref c), some (V.ref l), some (V.ref pa), some (V.ref pd)] = [some (.ref c), some (.ref l), v1, v2] ∧ Same H H2 ∧ H2 l = some (.lst (bs.map V.ref)) ∧ LinesR H2 bs ((s.take (i + 1)).foldl Rn.ownAdd []) ∧ bs.length ≤ 2 * (i + 1) :=
        fun H2 bs2 q1 q2 q3 q4 => ⟨_, _, bs2, rfl, q1, q2, q3, q4⟩
      refine ⟨_, rfl, _, _, _, _, _, rfl, e2.ins, T.cl_Address, T.na_Address_what, addrF_what, rfl, _, rfl, ?_⟩
      refine ifP (fun c1 => ?_) (fun c1 => ?_)
      · rw [vi_eq] at c1
        have hw : Vasedb.justOf cm.a = [aWord cm.a] := by rw [just_what, if_pos (by omega)]
        refine ⟨_, rfl, _, _, _, _, _, rfl, e2.ins, T.cl_Address, T.na_Address_word, addrF_word, _, rfl, dl (aWord cm.a), _, dp_line e2.word, dp_linesL ⟨bs, hL, hR⟩, dl_sh _, dls_shL _, _, rfl, ?_⟩
        rw [any_eqv]
        refine ifB (fun c2 => ?_) (fun c2 => ?_)
        · have c2' : ((s.take i).foldl Rn.ownAdd []).contains (aWord cm.a) = false := by simpa using c2
          refine ⟨_, rfl, tyL hL, _, rfl, _, _, _, _, _, rfl, e2.ins, T.cl_Address, T.na_Address_word, addrF_word, l, _, _, rfl, rfl, hL, by rw [List.length_map]; exact smallL (by omega), ?_⟩
          have Ap := Apart.lst hL
          refine half _ (bs ++ [e2.wd]) (Same.mut s1 nl) (upd_same.trans (by rw [List.map_append]; rfl)) ?_ (by rw [List.length_append]; show bs.length + 1 ≤ _; omega) (e3.but Ap But.upd) fin
          rw [hw]
          show LinesR _ _ (Rn.add _ _)
          rw [Rn.add, if_neg (by rw [c2']; exact Bool.false_ne_true)]
          exact (hR.but Ap But.upd).snoc (Ap.line But.upd e2.word)
        · have c2' : ((s.take i).foldl Rn.ownAdd []).contains (aWord cm.a) = true := by simpa using c2
          refine half _ bs s1 hL ?_ (by omega) e3 fin
          rw [hw]
          show LinesR _ _ (Rn.add _ _)
          rw [Rn.add, if_pos c2']
          exact hR
      · rw [vi_eq] at c1
        have hw : Vasedb.justOf cm.a = [] := by rw [just_what, if_neg (by omega)]
        refine half _ bs s1 hL ?_ (by omega) e3 fin
        rw [hw]
        exact hR
    · rintro σ H' ⟨v1, v2, bs, rfl, s1, hL, hR, hn⟩
      rw [List.length_map, las, List.take_length, ← Rn.own_eq] at hR
      exact ⟨_, rfl, k H' l s1 nl ⟨bs, hL, hR⟩⟩
theorem sc_letters_together : FnScope N_letters_together P_letters_together (defScope s_letters_together) := ⟨rfl, rfl, rfl, by decide +kernel, rfl, by decide +kernel, by decide +kernel⟩
def sp_letters_together : Sp := fun vs H Q _ => ∃ (q : PySem.Addr) (ls : List Bytes), vs = [.ref q] ∧ LinesL H q ls ∧ Q (.int ((ls.map fun w => w.length).sum : Nat)) H
theorem ok_letters_together (T : Txt K mg ad) : OkD P w K mg base CX0 1 "letters_together" P_letters_together sp_letters_together := by
  obtain ⟨f, fd, hm, F, hb⟩ := T.d_letters_together
  refine ⟨f, fd, hm, F.kp, hb, F.ok sc_letters_together (fun vs H Q E h => ?_) (fun cdv A outer s H vs Q E hr h => ⟨_, (pss_cons (ps_set (i := 1) sc_letters_together.nd rfl (Or.inl rfl) pe_int)
     (pss_cons (ps_for PassesOwn.never rfl (pi_list (pv 0)) (pg_name (i := 2) sc_letters_together.nd rfl (Or.inl rfl))
     (pss_one (ps_aug (i := 1) sc_letters_together.nd rfl (Or.inl rfl) (pe_callB call_len_seq (by rfl) T.n_len PySem.boot_len (pa_cons (pv 2) pa_nil)) ip_add)))
     (pss_one (ps_ret (pv 1))))), ?_⟩)⟩
  · obtain ⟨q, ls, rfl, _⟩ := h
    rfl
  · obtain ⟨q, ls, rfl, ⟨as, hL, hR⟩, k⟩ := h
    have las := hR.length
    refine ⟨_, rfl, q, rfl, ⟨_, SqL.of hL⟩, for_list (K := K) (a := q) (xs := as.map V.ref) (fun i σ H' => H' = H ∧ ∃ v, σ = [some (.ref q), some (.int (((ls.take i).map fun w => w.length).sum : Nat)), v]) ⟨rfl, none, rfl⟩ (fun i σ H' _ ⟨e, _⟩ => by rw [e]; exact SqL.of hL) ?_ ?_⟩
    · rintro i v σ H' hi ⟨rfl, v1, rfl⟩
      obtain ⟨p, hp, rfl⟩ := map_ref_at hi
      obtain ⟨x, hx, ex⟩ := paired_get hR hp
      refine ⟨_, rfl, _, rfl, p, _, rfl, SqTo ex, _, _, rfl, rfl, rfl, some (.ref p), ?_⟩
      rw [take_snoc hx, sum_snoc, Int.natCast_add, vl_length]
      rfl
    · rintro σ H' ⟨rfl, v1, rfl⟩
      rw [List.length_map, las, List.take_length]
      exact ⟨_, rfl, k⟩
theorem sc_is_plain : FnScope N_is_plain P_is_plain (defScope s_is_plain) := ⟨rfl, rfl, rfl, by decide +kernel, rfl, by decide +kernel, by decide +kernel⟩
def sp_is_plain (ad : Ad) : Sp := fun vs H Q _ => ∃ (c : PySem.Addr) (s : Script), vs = [.ref c] ∧ CmdsAt ad H c s ∧ s.length ≤ 64 ∧ ∀ H', Same H H' → Q (.bl (Vasedb.plain s)) H'
theorem ok_is_plain (T : Txt K mg ad) : OkD P w K mg base CX0 2 "is_plain" P_is_plain (sp_is_plain ad) := by
  obtain ⟨f, fd, hm, F, hb⟩ := T.d_is_plain
  have G_looked_for : OkD P w K mg base CX0 1 "looked_for" P_looked_for (sp_looked_for ad) := ok_looked_for T
  have G_letters_together : OkD P w K mg base CX0 1 "letters_together" P_letters_together sp_letters_together := ok_letters_together T
  refine ⟨f, fd, hm, F.kp, hb, F.ok sc_is_plain (fun vs H Q E h => ?_) (fun cdv A outer s H vs Q E hr h => ⟨_, (pss_cons (ps_for PassesOwn.never rfl (pi_list (pv 0)) (pg_tup rfl (pgs_cons (pg_name (i := 1) sc_is_plain.nd rfl (Or.inl rfl)) (pgs_cons (pg_name (i := 2) sc_is_plain.nd rfl (Or.inl rfl)) pgs_nil)))
     (pss_one (ps_if (pt_cmpR op_in_seq (pe_fld (pv 2) rfl) (pe_tup (pa_cons (g_int 13 T.g_SWAP) (pa_cons (g_int 14 T.g_FIRST) (pa_cons (g_int 15 T.g_KEEP) (pa_cons (g_int 16 T.g_BRING) (pa_cons (g_int 17 T.g_TRADE) pa_nil)))))) (by rfl))
     (pss_one (ps_ret pe_bl))
     pss_nil)))
     (pss_cons (ps_set (i := 3) sc_is_plain.nd rfl (Or.inl rfl) (pe_callD (G_looked_for) (hr.mono (by decide)) pass0 (pa_cons (pv 0) pa_nil)))
     (pss_one (ps_ret (pe_and (pe_cmpR op_le (pe_callB call_len_seq (by rfl) T.n_len PySem.boot_len (pa_cons (pv 3) pa_nil)) pe_int (nomark _)) (pe_one (pe_cmpR op_le (pe_callD (G_letters_together) (hr.mono (by decide)) pass0 (pa_cons (pv 3) pa_nil)) pe_int (nomark _)))))))), ?_⟩)⟩
  · obtain ⟨c, s, rfl, _⟩ := h
    rfl
  · obtain ⟨c, s, rfl, hCs, hl, k⟩ := h
    obtain ⟨as, hC, hP⟩ := id hCs
    have las : as.length = s.length := Paired.length hP
    refine ⟨_, rfl, c, rfl, ⟨_, SqL.of hC⟩, for_list (K := K) (a := c) (xs := as.map V.ref) (fun i σ H' => ∃ (v1 v2 : Option V), σ = [some (.ref c), v1, v2, none] ∧ Same H H' ∧ ∀ m ∈ s.take i, Vasedb.plainDeed m.d = true)
      ⟨none, none, rfl, Same.refl H, fun m hm => by simp at hm⟩ (fun i σ H' _ ⟨_, _, _, s1, _⟩ => SqL.of (s1 _ _ hC)) ?_ ?_⟩
    · rintro i v σ H' hi ⟨v1, v2, rfl, s1, hpl⟩
      obtain ⟨p, cm, pa, pd, rfl, hc, e1, e2, e3⟩ := cmd_at hi hP
      replace e1 := s1 _ _ e1
      replace e3 := e3.same s1
      refine ⟨p, _, rfl, SqT.of e1, rfl, .ref pa, _, rfl, .ref pd, _, rfl, rfl, ?_⟩
      refine ⟨_, rfl, _, _, _, _, _, rfl, e3.ins, T.cl_Deed, T.na_Deed_what, deedF_what, by show 5 ≤ sizeLine; decide, fun tp htp => ⟨tp, _, rfl, SqTo upd_same, rfl, rfl, _, rfl, ?_⟩⟩
      have t2 : Same H' (upd H' tp (.tup [.int 13, .int 14, .int 15, .int 16, .int 17])) := Same.new htp
      refine ifB (fun c1 => ?_) (fun c1 => ?_)
      · replace c1 : inV (.int (dWhat cm.d : Int)) ([13, 14, 15, 16, 17].map fun n : Nat => V.int (n : Int)) = true := c1
        rw [in_list] at c1
        have hx : Vasedb.plainDeed cm.d = false := by rw [plain_what, c1]; rfl
        have : Vasedb.plain s = false := by
          unfold Vasedb.plain
          rw [Bool.and_eq_false_iff]
          refine .inl ?_
          rw [List.all_eq_false]
          exact ⟨cm, List.mem_of_getElem? hc, by rw [hx]; exact Bool.false_ne_true⟩
        have q := k _ (s1.trans t2)
        rw [this] at q
        exact q
      · replace c1 : inV (.int (dWhat cm.d : Int)) ([13, 14, 15, 16, 17].map fun n : Nat => V.int (n : Int)) = false := c1
        rw [in_list] at c1
        refine ⟨_, _, rfl, s1.trans t2, fun m hm => ?_⟩
        rw [take_snoc hc] at hm
        rcases List.mem_append.mp hm with hm | hm
        · exact hpl m hm
        · rw [show m = cm from by simpa using hm, plain_what, c1]
          rfl
    · rintro σ H' ⟨v1, v2, rfl, s1, hpl⟩
      rw [List.length_map, las, List.take_length] at hpl
      have all : (s.all fun c => Vasedb.plainDeed c.d) = true := List.all_eq_true.mpr hpl
      refine ⟨_, rfl, c, s, rfl, hCs.same s1, hl, fun H2 q s2 _ hq => ?_⟩
      obtain ⟨bs, hL, hR⟩ := id hq
      have lbs := hR.length
      refine ⟨_, rfl, q, _, rfl, SqLo hL, _, _, rfl, rfl, _, rfl, ?_⟩
      rw [List.length_map, lbs]
      refine ifP (fun c1 => ?_) (fun c1 => ?_)
      · refine ⟨_, rfl, q, _, rfl, hq, _, _, rfl, rfl, ?_⟩
        have : decide (((((Vasedb.hasWords s).map fun w => w.length).sum : Nat) : Int) ≤ 16) = Vasedb.plain s := by
          unfold Vasedb.plain
          rw [all, Bool.true_and, decide_eq_true (show (Vasedb.hasWords s).length ≤ Vasedb.HAS from by show _ ≤ 4; omega), Bool.true_and]
          exact decide_eq_decide.mpr ⟨fun z => (by show _ ≤ 16; omega), fun z => (by have z' : ((Vasedb.hasWords s).map fun w => w.length).sum ≤ 16 := z; omega)⟩
        have q := k _ (s1.trans s2)
        rw [← this] at q
        exact q
      · have : false = Vasedb.plain s := by
          unfold Vasedb.plain
          rw [all, Bool.true_and, decide_eq_false (show ¬ (Vasedb.hasWords s).length ≤ Vasedb.HAS from fun z => c1 (by have z' : (Vasedb.hasWords s).length ≤ 4 := z; omega)), Bool.false_and]
        have q := k _ (s1.trans s2)
        rw [← this] at q
        exact q
end
end Lw

/-! runs: lines -/
namespace Lw
open PySem PySem.Spec PyProof.Rows L2
open VasedBase (Bytes PTok Toks)
open Vaseda (Deed Cmd Script Line)

theorem hasIn_of {w : Bytes} {x : Line} {i : Nat} (h : i + w.length ≤ x.length) (e : (x.drop i).take w.length = w) : Vaseda.hasIn w x = true := by
  unfold Vaseda.hasIn
  rw [List.any_eq_true]
  refine ⟨i, List.mem_range.mpr (by omega), ?_⟩
  rw [Bool.and_eq_true, decide_eq_true_iff]
  refine ⟨?_, h⟩
  unfold Vaseda.begins
  rw [e]
  exact beq_self_eq_true w
theorem not_hasIn {w : Bytes} {x : Line} (h : ∀ i, i + w.length ≤ x.length → ¬ (x.drop i).take w.length = w) : Vaseda.hasIn w x = false := by
  unfold Vaseda.hasIn
  rw [List.any_eq_false]
  intro i hi q
  rw [Bool.and_eq_true, decide_eq_true_iff] at q
  exact h i q.2 (eq_of_beq q.1)
def flipN : Nat → Bool → Bool
  | 0, b => b
  | n + 1, b => !flipN n b
theorem holds_core (k : Nat) (b : Bool) (x : Line) : ∀ A, Vaseda.holds k b x A = flipN (nNot A) (Vaseda.holds k b x (coreA A))
  | .all => rfl
  | .line _ => rfl
  | .span _ _ => rfl
  | .last => rfl
  | .has _ => rfl
  | .is_ _ => rfl
  | .not a => congrArg (!·) (holds_core k b x a)
theorem holds_bare_eq (k : Nat) (b : Bool) (x : Line) : ∀ A, Vaseda.holds k b x (coreA A) = if aWhat A = 1 then true else if aWhat A = 2 ∨ aWhat A = 3 then decide (aLow A ≤ k ∧ k ≤ aHigh A) else if aWhat A = 5 then b else if aWhat A = 6 then Vaseda.hasIn (aWord A) x else decide (x = aWord A)
  | .all => rfl
  | .line n => by
    show (k == n) = decide (n ≤ k ∧ k ≤ n)
    rw [Bool.eq_iff_iff, beq_iff_eq, decide_eq_true_iff]
    omega
  | .span _ _ => rfl
  | .last => rfl
  | .has _ => rfl
  | .is_ w => by
    show (x == w) = decide (x = w)
    rw [Bool.eq_iff_iff, beq_iff_eq, decide_eq_true_iff]
  | .not a => holds_bare_eq k b x a
theorem wordC_ok {A : Vaseda.Addr} (h1 : ∀ w ∈ Vasedb.wordsOf A, Rn.okW w) (h2 : ∀ w ∈ Vasedb.justOf A, Rn.okW w) : (aWord A).length ≤ 8 := by
  by_cases c : aWhat A = 6
  · exact (h1 _ (by rw [words_what, if_pos c]; exact List.mem_singleton.mpr rfl)).2
  by_cases c' : aWhat A = 7
  · exact (h2 _ (by rw [just_what, if_pos c']; exact List.mem_singleton.mpr rfl)).2
  have : ∀ A, ¬ aWhat A = 6 → ¬ aWhat A = 7 → aWord A = [] := by
    intro A
    induction A with
    | has w => intro h; exact absurd rfl h
    | is_ w => intro _ h; exact absurd rfl h
    | not a ih => exact ih
    | _ => intro _ _; rfl
  rw [this A c c']
  exact Nat.zero_le _
section
variable {P : Program} {w : World} {K : PySem.W.Frag} {mg : Str → Option Value} {base : Heap} {ad : Ad}
theorem sc_stands : FnScope N_stands P_stands (defScope s_stands) := ⟨rfl, rfl, rfl, by decide +kernel, rfl, by decide +kernel, by decide +kernel⟩
def sp_stands : Sp := fun vs H Q _ => ∃ (a b : PySem.Addr) (v x : Bytes), vs = [.ref a, .ref b] ∧ H a = some (.tup (vl v)) ∧ v.length ≤ 64 ∧ H b = some (.tup (vl x)) ∧ x.length ≤ 64 ∧ ∀ H', Same H H' → Q (.bl (Vaseda.hasIn v x)) H'
theorem ok_stands (T : Txt K mg ad) : OkD P w K mg base CX0 1 "stands" P_stands sp_stands := by
  obtain ⟨f, fd, hm, F, hb⟩ := T.d_stands
  refine ⟨f, fd, hm, F.kp, hb, F.ok sc_stands (fun vs H Q E h => ?_) (fun cdv A outer s H vs Q E hr h => ⟨_, (pss_cons (ps_for PassesOwn.never rfl (pi_range1 rfl T.n_range (pa_cons (pe_op op_add (pe_op op_sub (pe_callB call_len_seq (by rfl) T.n_len PySem.boot_len (pa_cons (pv 1) pa_nil)) (pe_callB call_len_seq (by rfl) T.n_len PySem.boot_len (pa_cons (pv 0) pa_nil))) pe_int) pa_nil)) (pg_name (i := 2) sc_stands.nd rfl (Or.inl rfl))
     (pss_one (ps_if (pt_cmpR (op_eqD hr.units) (pe_slice sl_tupB (pv 1) (po_some (pv 2)) (po_some (pe_op op_add (pv 2) (pe_callB call_len_seq (by rfl) T.n_len PySem.boot_len (pa_cons (pv 0) pa_nil))))) (pv 0) (nomark _))
     (pss_one (ps_ret pe_bl))
     pss_nil)))
     (pss_one (ps_ret pe_bl))), ?_⟩)⟩
  · obtain ⟨a, b, v, x, rfl, _⟩ := h
    rfl
  · obtain ⟨a, b, v, x, rfl, hv, lv, hx, lx, k⟩ := h
    have e0 : ((x.length : Int) - (v.length : Int) + 1) = ((x.length : Int) + 1 - (v.length : Int)) := by omega
    refine ⟨_, rfl, b, _, rfl, SqTo hx, _, rfl, a, _, rfl, SqTo hv, _, _, rfl, rfl, _, _, rfl, rfl, ?_⟩
    rw [vl_length, vl_length]
    refine ⟨_, rfl, (r62i (by omega) (by omega)).1, (r62i (by omega) (by omega)).2, for_range (fun i σ H' => Same H H' ∧ (∃ z, σ = [some (.ref a), some (.ref b), z]) ∧ ∀ m, m < i → ¬ (x.drop m).take v.length = v) ⟨Same.refl H, ⟨_, rfl⟩, fun m hm => absurd hm (Nat.not_lt_zero _)⟩ ?_ ?_⟩
    · rintro i σ H' hi ⟨s1, ⟨z, rfl⟩, inv⟩
      have hi' : i + v.length ≤ x.length := by omega
      rw [Int.zero_add]
      refine ⟨_, rfl, _, rfl, _, rfl, _, rfl, _, rfl, a, _, rfl, SqTo (s1 _ _ hv), _, _, rfl, rfl, _, rfl, b, _, rfl, s1 _ _ hx, fun p H2 s2 hp => ?_⟩
      rw [vl_length, show (i : Int) + (v.length : Int) = ((i + v.length : Nat) : Int) from by omega, vl_cut hi'] at hp
      have ec : Lx.cut x i (i + v.length) = (x.drop i).take v.length := by unfold Lx.cut; rw [Nat.add_sub_cancel_left]
      rw [ec] at hp
      refine ⟨_, rfl, _, _, dp_line hp, dp_line (s2 _ _ (s1 _ _ hv)), dl_sh _, dl_sh _, _, rfl, ?_⟩
      rw [dl_eqv]
      refine ifP (fun e => ?_) (fun e => ?_)
      · have q := k _ (s1.trans s2)
        rw [hasIn_of hi' e] at q
        exact q
      · refine ⟨s1.trans s2, ⟨_, rfl⟩, fun m hm => ?_⟩
        by_cases c : m < i
        · exact inv m c
        · rw [show m = i from by omega]
          exact e
    · rintro σ H' ⟨s1, ⟨z, rfl⟩, inv⟩
      have q := k _ s1
      rw [not_hasIn fun i hi => inv i (by omega)] at q
      exact q
theorem sc_holds_bare : FnScope N_holds_bare P_holds_bare (defScope s_holds_bare) := ⟨rfl, rfl, rfl, by decide +kernel, rfl, by decide +kernel, by decide +kernel⟩
def sp_holds_bare (ad : Ad) : Sp := fun vs H Q _ => ∃ (p b : PySem.Addr) (A : Vaseda.Addr) (x : Line) (k : Nat) (c : Bool), vs = [.ref p, .ref b, .int (k : Int), .bl c] ∧ AddrAt ad H p A ∧ (aWord A).length ≤ 8 ∧ H b = some (.tup (vl x)) ∧ x.length ≤ 64 ∧
  ∀ H', Same H H' → Q (.bl (Vaseda.holds k c x (coreA A))) H'
theorem ok_holds_bare (T : Txt K mg ad) : OkD P w K mg base CX0 2 "holds_bare" P_holds_bare (sp_holds_bare ad) := by
  obtain ⟨f, fd, hm, F, hb⟩ := T.d_holds_bare
  have G_stands : OkD P w K mg base CX0 1 "stands" P_stands sp_stands := ok_stands T
  refine ⟨f, fd, hm, F.kp, hb, F.ok sc_holds_bare (fun vs H Q E h => ?_) (fun cdv A outer s H vs Q E hr h => ⟨_, (pss_cons (ps_if (pt_cmpR op_eq (pe_fld (pv 0) rfl) (g_int 1 T.g_ALL) (nomark _))
     (pss_one (ps_ret pe_bl))
     pss_nil)
     (pss_cons (ps_if (PW.pt (pw_or (pt_cmpR op_eq (pe_fld (pv 0) rfl) (g_int 2 T.g_LINE) (nomark _)) (pw_or1 (pt_cmpR op_eq (pe_fld (pv 0) rfl) (g_int 3 T.g_FROM) (nomark _)))))
     (pss_one (ps_ret (pe_chain op_le op_le (pe_fld (pv 0) rfl) (pv 2) (pe_fld (pv 0) rfl))))
     pss_nil)
     (pss_cons (ps_if (pt_cmpR op_eq (pe_fld (pv 0) rfl) (g_int 5 T.g_LAST) (nomark _))
     (pss_one (ps_ret (pv 3)))
     pss_nil)
     (pss_cons (ps_if (pt_cmpR op_eq (pe_fld (pv 0) rfl) (g_int 6 T.g_HAS) (nomark _))
     (pss_one (ps_ret (pe_callD (G_stands) (hr.mono (by decide)) pass0 (pa_cons (pe_fld (pv 0) rfl) (pa_cons (pv 1) pa_nil)))))
     pss_nil)
     (pss_one (ps_ret (pe_cmpR (op_eqD hr.units) (pv 1) (pe_fld (pv 0) rfl) (nomark _)))))))), ?_⟩)⟩
  · obtain ⟨p, b, A, x, k, c, rfl, _⟩ := h
    rfl
  · obtain ⟨p, b, A, x, k, c, rfl, hA, lA, hx, lx, q⟩ := h
    have q0 := q
    replace q := q H (Same.refl H)
    rw [holds_bare_eq] at q
    refine ⟨_, rfl, _, _, _, _, _, rfl, hA.ins, T.cl_Address, T.na_Address_what, addrF_what, rfl, _, rfl, ?_⟩
    refine ifP (fun e1 => ?_) (fun e1 => ?_)
    · rw [vi_eq] at e1
      rw [if_pos (by omega)] at q
      exact q
    rw [vi_eq] at e1
    rw [if_neg (by omega)] at q
    have span : ∀ {D : VK}, D (.bl (decide (aLow A ≤ k ∧ k ≤ aHigh A))) H → tChain (rI0 fun i j => .bl (decide (i ≤ j))) (rI0 fun i j => .bl (decide (i ≤ j))) (tFld K (tVar 0) "low") (tVar 2) (tFld K (tVar 0) "high") [some (.ref p), some (.ref b), some (.int (k : Int)), some (.bl c)] H D := fun {D} h => by
      refine ⟨_, rfl, _, _, _, _, _, rfl, hA.ins, T.cl_Address, T.na_Address_low, addrF_low, _, rfl, _, _, rfl, rfl, _, rfl, ?_⟩
      refine ifP (fun e => ?_) (fun e => ?_)
      · refine ⟨_, rfl, _, _, _, _, _, rfl, hA.ins, T.cl_Address, T.na_Address_high, addrF_high, _, _, rfl, rfl, ?_⟩
        rw [show decide (aLow A ≤ k ∧ k ≤ aHigh A) = decide ((k : Int) ≤ (aHigh A : Int)) from decide_eq_decide.mpr ⟨fun z => by omega, fun z => by omega⟩] at h
        exact h
      · rw [decide_eq_false (by omega)] at h
        exact h
    refine ⟨_, rfl, _, _, _, _, _, rfl, hA.ins, T.cl_Address, T.na_Address_what, addrF_what, rfl, _, rfl, ?_⟩
    refine ifP (fun e2 => ?_) (fun e2 => ?_)
    · rw [vi_eq] at e2
      rw [if_pos (by omega)] at q
      exact span q
    rw [vi_eq] at e2
    refine ⟨_, rfl, _, _, _, _, _, rfl, hA.ins, T.cl_Address, T.na_Address_what, addrF_what, rfl, _, rfl, ?_⟩
    refine ifP (fun e3 => ?_) (fun e3 => ?_)
    · rw [vi_eq] at e3
      rw [if_pos (by omega)] at q
      exact span q
    rw [vi_eq] at e3
    rw [if_neg (by omega)] at q
    refine ⟨_, rfl, _, _, _, _, _, rfl, hA.ins, T.cl_Address, T.na_Address_what, addrF_what, rfl, _, rfl, ?_⟩
    refine ifP (fun e4 => ?_) (fun e4 => ?_)
    · rw [vi_eq] at e4
      rw [if_pos (by omega)] at q
      exact ⟨_, rfl, q⟩
    rw [vi_eq] at e4
    rw [if_neg (by omega)] at q
    refine ⟨_, rfl, _, _, _, _, _, rfl, hA.ins, T.cl_Address, T.na_Address_what, addrF_what, rfl, _, rfl, ?_⟩
    refine ifP (fun e5 => ?_) (fun e5 => ?_)
    · rw [vi_eq] at e5
      refine ⟨_, rfl, _, _, _, _, _, rfl, hA.ins, T.cl_Address, T.na_Address_word, addrF_word, _, rfl, hA.wd, b, aWord A, x, rfl, hA.word, by omega, hx, lx, fun H' s1 => ?_⟩
      have q := q0 H' s1
      rw [holds_bare_eq, if_neg (by omega), if_neg (by omega), if_neg (by omega), if_pos (by omega)] at q
      exact q
    rw [vi_eq] at e5
    rw [if_neg (by omega)] at q
    refine ⟨_, rfl, _, rfl, _, _, _, _, _, rfl, hA.ins, T.cl_Address, T.na_Address_word, addrF_word, _, _, dp_line hx, dp_line hA.word, dl_sh _, dl_sh _, ?_⟩
    rw [dl_eqv]
    exact q
theorem sc_holds : FnScope N_holds P_holds (defScope s_holds) := ⟨rfl, rfl, rfl, by decide +kernel, rfl, by decide +kernel, by decide +kernel⟩
def sp_holds (ad : Ad) : Sp := fun vs H Q _ => ∃ (p b : PySem.Addr) (A : Vaseda.Addr) (x : Line) (k : Nat) (c : Bool), vs = [.ref p, .ref b, .int (k : Int), .bl c] ∧ AddrAt ad H p A ∧ (aWord A).length ≤ 8 ∧ Rn.nn A ≤ 3 ∧ H b = some (.tup (vl x)) ∧ x.length ≤ 64 ∧
  ∀ H', Same H H' → Q (.bl (Vaseda.holds k c x A)) H'
theorem ok_holds (T : Txt K mg ad) : OkD P w K mg base CX0 3 "holds" P_holds (sp_holds ad) := by
  obtain ⟨f, fd, hm, F, hb⟩ := T.d_holds
  have G_holds_bare : OkD P w K mg base CX0 2 "holds_bare" P_holds_bare (sp_holds_bare ad) := ok_holds_bare T
  refine ⟨f, fd, hm, F.kp, hb, F.ok sc_holds (fun vs H Q E h => ?_) (fun cdv A outer s H vs Q E hr h => ⟨_, (pss_cons (ps_set (i := 4) sc_holds.nd rfl (Or.inl rfl) (pe_callD (G_holds_bare) (hr.mono (by decide)) pass0 (pa_cons (pv 0) (pa_cons (pv 1) (pa_cons (pv 2) (pa_cons (pv 3) pa_nil))))))
     (pss_cons (ps_for PassesOwn.never rfl (pi_range1 rfl T.n_range (pa_cons (pe_fld (pv 0) rfl) pa_nil)) (pg_name (i := 5) sc_holds.nd rfl (Or.inl rfl))
     (pss_one (ps_set (i := 4) sc_holds.nd rfl (Or.inl rfl) (pe_not (pv 4)))))
     (pss_one (ps_ret (pv 4))))), ?_⟩)⟩
  · obtain ⟨p, b, A, x, k, c, rfl, _⟩ := h
    rfl
  · obtain ⟨p, b, A, x, k, c, rfl, hA, lA, nA, hx, lx, q⟩ := h
    refine ⟨_, rfl, _, rfl, _, rfl, _, rfl, p, b, A, x, k, c, rfl, hA, lA, hx, lx, fun H1 s1 => ?_⟩
    replace hA := hA.same s1
    rw [← nNot_nn] at nA
    refine ⟨_, rfl, _, _, _, _, _, rfl, hA.ins, T.cl_Address, T.na_Address_nots, addrF_nots, _, rfl, (r62 (by omega)).1, (r62 (by omega)).2, for_range (fun i σ H' => H' = H1 ∧ ∃ z, σ = [some (.ref p), some (.ref b), some (.int (k : Int)), some (.bl c), some (.bl (flipN i (Vaseda.holds k c x (coreA A)))), z]) ⟨rfl, _, rfl⟩ ?_ ?_⟩
    · rintro i σ H' hi ⟨rfl, z, rfl⟩
      exact ⟨_, rfl, _, rfl, rfl, _, rfl⟩
    · rintro σ H' ⟨rfl, z, rfl⟩
      have e := holds_core k c x A
      rw [show ((nNot A : Nat) : Int).toNat = nNot A from by omega, ← e]
      exact ⟨_, rfl, q _ s1⟩
theorem ifF {p : Prop} [Decidable p] {A B : Prop} (h : ¬ p) (b : B) : if decide p = true then A else B := by
  rw [decide_eq_false h]
  exact b
theorem ifT {p : Prop} [Decidable p] {A B : Prop} (h : p) (b : A) : if decide p = true then A else B := by
  rw [decide_eq_true h]
  exact b
theorem deed_cases (d : Deed) : (dWhat d = 9 → d = .delete) ∧ (dWhat d = 19 → d = .halt_) ∧ (dWhat d = 10 → d = .before (dWord d)) ∧ (dWhat d = 11 → d = .after (dWord d)) ∧ (dWhat d = 12 → d = .change (dWord d)) ∧ (dWhat d = 18 → d = .skip (dMany d)) ∧
    (¬ dWhat d = 9 → ¬ dWhat d = 19 → ¬ dWhat d = 10 → ¬ dWhat d = 11 → ¬ dWhat d = 12 → ¬ dWhat d = 18 → (∃ a b, d = .swap a b) ∨ (∃ a b, d = .first a b) ∨ d = .keep ∨ d = .bring ∨ d = .trade) := by
  cases d <;> simp [dWhat, dWord, dMany]
abbrev rTup (K : PySem.W.Frag) : List V → Hp → VK → Prop := fun xs H Q => ∃ p ys, xs = [.ref p] ∧ ((SqL K H p ys ∧ ∀ l, H l = none → Q (.ref l) (upd H l (.tup ys))) ∨ (SqT K H p ys ∧ Q (.ref p) H))
theorem Same.lst {H H' : Hp} {p : PySem.Addr} {l : List Line} {as : List PySem.Addr} (s : Same H H') (hp : H' p = some (.tup (as.map V.ref))) (r : LinesR H as l) : LinesT H' p l := ⟨as, hp, r.same s⟩
theorem sc_come_of : FnScope N_come_of P_come_of (defScope s_come_of) := ⟨rfl, rfl, rfl, by decide +kernel, rfl, by decide +kernel, by decide +kernel⟩
def sp_come_of (ad : Ad) : Sp := fun vs H Q _ => ∃ (c b : PySem.Addr) (s : Script) (x : Line) (k : Nat) (e : Bool), vs = [.ref c, .ref b, .int (k : Int), .bl e] ∧ CmdsAt ad H c s ∧ Rn.Wf s ∧ s.length ≤ 64 ∧ H b = some (.tup (vl x)) ∧ x.length ≤ 64 ∧
  ∀ H' p, Same H H' → LinesT H' p (Rn.come k e s [] [] x 0) → Q (.ref p) H'
theorem ok_come_of (T : Txt K mg ad) : OkD P w K mg base CX0 4 "come_of" P_come_of (sp_come_of ad) := by
  obtain ⟨f, fd, hm, F, hb⟩ := T.d_come_of
  have G_holds : OkD P w K mg base CX0 3 "holds" P_holds (sp_holds ad) := ok_holds T
  refine ⟨f, fd, hm, F.kp, hb, F.ok sc_come_of (fun vs H Q E h => ?_) (fun cdv A outer s H vs Q E hr h => ⟨_, (pss_cons (ps_set (i := 4) sc_come_of.nd rfl (Or.inl rfl) (pe_lst pa_nil))
     (pss_cons (ps_set (i := 5) sc_come_of.nd rfl (Or.inl rfl) (pe_lst pa_nil))
     (pss_cons (ps_set (i := 6) sc_come_of.nd rfl (Or.inl rfl) (pv 1))
     (pss_cons (ps_set (i := 7) sc_come_of.nd rfl (Or.inl rfl) pe_int)
     (pss_cons (ps_for PassesOwn.never rfl (pi_list (pv 0)) (pg_tup rfl (pgs_cons (pg_name (i := 8) sc_come_of.nd rfl (Or.inl rfl)) (pgs_cons (pg_name (i := 9) sc_come_of.nd rfl (Or.inl rfl)) pgs_nil)))
     (pss_one (ps_if (pt_cmpR op_gt (pv 7) pe_int (nomark _))
     (pss_one (ps_aug (i := 7) sc_come_of.nd rfl (Or.inl rfl) pe_int ip_sub))
     (pss_one (ps_if (pt_val (pe_callD (G_holds) (hr.mono (by decide)) pass0 (pa_cons (pv 8) (pa_cons (pv 6) (pa_cons (pv 2) (pa_cons (pv 3) pa_nil))))))
     (pss_cons (ps_if (pt_cmpR op_eq (pe_fld (pv 9) rfl) (g_int 9 T.g_DELETE) (nomark _))
     (pss_one (ps_ret (pe_callTy call_tuple_of (by rfl) T.n_tuple (by decide +kernel) (pa_cons (pe_op op_cat (pv 4) (pv 5)) pa_nil))))
     pss_nil)
     (pss_cons (ps_if (pt_cmpR op_eq (pe_fld (pv 9) rfl) (g_int 19 T.g_STOP) (nomark _))
     (pss_one (ps_ret (pe_callTy call_tuple_of (by rfl) T.n_tuple (by decide +kernel) (pa_cons (pe_op op_cat (pe_op op_cat (pv 4) (pe_lst (pa_cons (pv 6) pa_nil))) (pv 5)) pa_nil))))
     pss_nil)
     (pss_cons (ps_if (pt_cmpR op_eq (pe_fld (pv 9) rfl) (g_int 10 T.g_BEFORE) (nomark _))
     (pss_one (ps_expr (pe_bm PySem.F.plainAttrs_list PySem.F.slot_list_append PySem.F.type_list_append mt_append (pv 4) (pa_cons (pe_fld (pv 9) rfl) pa_nil))))
     pss_nil)
     (pss_cons (ps_if (pt_cmpR op_eq (pe_fld (pv 9) rfl) (g_int 11 T.g_AFTER) (nomark _))
     (pss_one (ps_expr (pe_bm PySem.F.plainAttrs_list PySem.F.slot_list_append PySem.F.type_list_append mt_append (pv 5) (pa_cons (pe_fld (pv 9) rfl) pa_nil))))
     pss_nil)
     (pss_cons (ps_if (pt_cmpR op_eq (pe_fld (pv 9) rfl) (g_int 12 T.g_CHANGE) (nomark _))
     (pss_one (ps_set (i := 6) sc_come_of.nd rfl (Or.inl rfl) (pe_fld (pv 9) rfl)))
     pss_nil)
     (pss_one (ps_if (pt_cmpR op_eq (pe_fld (pv 9) rfl) (g_int 18 T.g_SKIP) (nomark _))
     (pss_one (ps_set (i := 7) sc_come_of.nd rfl (Or.inl rfl) (pe_fld (pv 9) rfl)))
     pss_nil)))))))
     pss_nil)))))
     (pss_one (ps_ret (pe_callTy call_tuple_of (by rfl) T.n_tuple (by decide +kernel) (pa_cons (pe_op op_cat (pe_op op_cat (pv 4) (pe_lst (pa_cons (pv 6) pa_nil))) (pv 5)) pa_nil))))))))), ?_⟩)⟩
  · obtain ⟨c, b, s, x, k, e, rfl, _⟩ := h
    rfl
  · obtain ⟨c, b, s, x, k, e, rfl, ⟨as, hC, hP⟩, wf, hl, hx, lx, q⟩ := h
    have las : as.length = s.length := Paired.length hP
    refine ⟨by show 0 ≤ sizeLine; decide, fun la na => ⟨by show 0 ≤ sizeLine; decide, fun lb nb => ⟨_, rfl, ?_⟩⟩⟩
    have nb0 : H lb = none := by
      by_cases z : lb = la
      · subst z
        rw [upd_same] at nb
        cases nb
      · rw [upd_ne z] at nb
        exact nb
    have nab : la ≠ lb := fun z => by rw [z, upd_same] at nb; cases nb
    have s0 : Same H (upd (upd H la (.lst [])) lb (.lst [])) := (Same.new na).trans (Same.new nb)
    have fin : ∀ (H' : Hp) (v1 v2 : Option V) (pa pb : List PySem.Addr) (aa bb : List Line) (pn : PySem.Addr) (y : Line) (l : Nat), Same H H' → H' la = some (.lst (pa.map V.ref)) → H' lb = some (.lst (pb.map V.ref)) → LinesR H' pa aa → LinesR H' pb bb → H' pn = some (.tup (vl y)) → pa.length ≤ 64 → pb.length ≤ 64 →
        Rn.come k e s [] [] x 0 = aa ++ [y] ++ bb → tRet (tCB (rTup K) (tCons (tOp rCat (tOp rCat (tVar 4) (tLst (tCons (tVar 6) tNil))) (tVar 5)) tNil)) { nx := fun _ H' => Q V.non H', rt := Q } [some (V.ref c), some (V.ref b), some (V.int (k : Int)), some (V.bl e), some (V.ref la), some (V.ref lb), some (V.ref pn), some (V.int (l : Int)), v1, v2] H' := by
      intro H' v1 v2 pa pb aa bb pn y l s1 hA hB rA rB hy na' nb' inv
      rw [inv] at q
      refine ⟨_, rfl, _, rfl, by show 1 ≤ sizeLine; decide, fun l1 n1 => ?_⟩
      refine ⟨la, l1, _, _, rfl, rfl, (Same.new n1) _ _ hA, upd_same, ?_, fun l2 n2 => ?_⟩
      · rw [List.length_map]; exact small (by show pa.length + 1 ≤ _; omega)
      have t1 := Same.new (o := .lst [V.ref pn]) n1
      have t2 := t1.trans (Same.new (o := .lst (pa.map V.ref ++ [V.ref pn])) n2)
      refine ⟨_, rfl, l2, lb, _, _, rfl, rfl, upd_same, t2 _ _ hB, ?_, fun l3 n3 => ?_⟩
      · rw [List.length_append, List.length_map, List.length_map]; exact small (by show pa.length + 1 + pb.length ≤ _; omega)
      refine ⟨l3, _, rfl, .inl ⟨SqL.of upd_same, fun l4 n4 => ?_⟩⟩
      have t3 := t2.trans (Same.new (o := .lst (pa.map V.ref ++ [V.ref pn] ++ pb.map V.ref)) n3)
      have t4 := t3.trans (Same.new (o := .tup (pa.map V.ref ++ [V.ref pn] ++ pb.map V.ref)) n4)
      exact q _ l4 (s1.trans t4) (Same.lst (as := pa ++ [pn] ++ pb) t4 (upd_same.trans (by rw [List.map_append, List.map_append]; rfl)) ((rA.snoc hy).append rB))
    refine ⟨_, rfl, c, rfl, ⟨_, SqL.of (s0 _ _ hC)⟩, for_list (K := K) (a := c) (xs := as.map V.ref) (fun i σ H' => ∃ (v1 v2 : Option V) (pa pb : List PySem.Addr) (aa bb : List Line) (pn : PySem.Addr) (y : Line) (l : Nat), σ = [some (.ref c), some (.ref b), some (.int (k : Int)), some (.bl e), some (.ref la), some (.ref lb), some (.ref pn), some (.int (l : Int)), v1, v2] ∧ Same H H' ∧
        H' la = some (.lst (pa.map V.ref)) ∧ H' lb = some (.lst (pb.map V.ref)) ∧ LinesR H' pa aa ∧ LinesR H' pb bb ∧ H' pn = some (.tup (vl y)) ∧ y.length ≤ 64 ∧ pa.length ≤ i ∧ pb.length ≤ i ∧ Rn.come k e s [] [] x 0 = Rn.come k e (s.drop i) aa bb y l)
      ⟨none, none, [], [], [], [], b, x, 0, rfl, s0, by rw [upd_ne nab]; exact upd_same, upd_same, .nil, .nil, s0 _ _ hx, lx, Nat.le_refl _, Nat.le_refl _, rfl⟩ (fun i σ H' _ ⟨_, _, _, _, _, _, _, _, _, _, s1, _⟩ => SqL.of (s1 _ _ hC)) ?_ ?_⟩
    · rintro i v σ H' hi ⟨v1, v2, pa, pb, aa, bb, pn, y, l, rfl, s1, hA, hB, rA, rB, hy, ly, na', nb', inv⟩
      obtain ⟨p, cm, pad, pd, rfl, hc, e1, e2, e3⟩ := cmd_at hi hP
      have i64 : i < 64 := by have := (List.getElem?_eq_some_iff.mp hc).1; omega
      have wc := wf cm (List.mem_of_getElem? hc)
      replace e1 := s1 _ _ e1
      replace e2 := e2.same s1
      replace e3 := e3.same s1
      rw [Lx.drop_at' hc] at inv
      rw [Rn.come] at inv
      refine ⟨p, _, rfl, SqT.of e1, rfl, .ref pad, _, rfl, .ref pd, _, rfl, rfl, ?_⟩
      refine ⟨_, rfl, _, _, rfl, rfl, _, rfl, ?_⟩
      refine ifP (fun c1 => ?_) (fun c1 => ?_)
      · rw [if_pos (show 0 < l by omega)] at inv
        exact ⟨_, rfl, _, _, rfl, rfl, _, _, pa, pb, aa, bb, pn, y, l - 1, by
          rw [show ((l - 1 : Nat) : Int) = (l : Int) - 1 from by omega]
          rfl, s1, hA, hB, rA, rB, hy, ly, by omega, by omega, inv⟩
      rw [if_neg (show ¬ 0 < l by omega)] at inv
      refine ⟨_, rfl, _, rfl, _, rfl, _, rfl, pad, pn, cm.a, y, k, e, rfl, e2, wordC_ok wc.has wc.just, wc.nots, hy, ly, fun H1 t1 => ⟨_, rfl, ?_⟩⟩
      replace s1 := s1.trans t1
      replace hA := t1 _ _ hA
      replace hB := t1 _ _ hB
      replace rA := rA.same t1
      replace rB := rB.same t1
      replace hy := t1 _ _ hy
      replace e3 := e3.same t1
      clear t1 e1 e2
      refine ifB (fun c2 => ?_) (fun c2 => ?_)
      · rw [if_pos c2] at inv
        have ds := deed_cases cm.d
        refine ⟨_, rfl, _, _, _, _, _, rfl, e3.ins, T.cl_Deed, T.na_Deed_what, deedF_what, rfl, _, rfl, ?_⟩
        refine ifP (fun c3 => ?_) (fun c3 => ?_)
        · rw [vi_eq] at c3
          rw [ds.1 (by omega)] at inv
          replace inv : Rn.come k e s [] [] x 0 = aa ++ bb := inv
          rw [inv] at q
          refine ⟨_, rfl, _, rfl, la, lb, _, _, rfl, rfl, hA, hB, ?_, fun l2 n2 => ?_⟩
          · rw [List.length_map, List.length_map]; exact small (by omega)
          have t2 := Same.new (o := .lst (pa.map V.ref ++ pb.map V.ref)) n2
          refine ⟨l2, _, rfl, .inl ⟨SqL.of upd_same, fun l3 n3 => ?_⟩⟩
          have t3 := t2.trans (Same.new (o := .tup (pa.map V.ref ++ pb.map V.ref)) n3)
          exact q _ l3 (s1.trans t3) (Same.lst (as := pa ++ pb) t3 (upd_same.trans (by rw [List.map_append])) (rA.append rB))
        rw [vi_eq] at c3
        refine ⟨_, rfl, _, _, _, _, _, rfl, e3.ins, T.cl_Deed, T.na_Deed_what, deedF_what, rfl, _, rfl, ?_⟩
        refine ifP (fun c4 => ?_) (fun c4 => ?_)
        · rw [vi_eq] at c4
          rw [ds.2.1 (by omega)] at inv
          exact fin H1 _ _ pa pb aa bb pn y l s1 hA hB rA rB hy (by omega) (by omega) inv
        rw [vi_eq] at c4
        refine ⟨_, rfl, _, _, _, _, _, rfl, e3.ins, T.cl_Deed, T.na_Deed_what, deedF_what, rfl, _, rfl, ?_⟩
        refine ifP (fun c5 => ?_) (fun c5 => ?_)
        · rw [vi_eq] at c5
          have ed := ds.2.2.1 (by omega)
          rw [ed] at inv
          refine ⟨_, rfl, tyL hA, _, rfl, _, _, _, _, _, rfl, e3.ins, T.cl_Deed, T.na_Deed_word, deedF_word, la, _, _, rfl, rfl, hA, by rw [List.length_map]; exact smallL (by omega), ?_⟩
          have Ap := Apart.lst hA
          have bu := But.upd (d := la) (H := H1) (o := .lst (pa.map V.ref ++ [.ref e3.wd]))
          replace rA := (rA.but Ap bu).snoc (Ap.line bu e3.word)
          replace rB := rB.but Ap bu
          refine ⟨_, rfl, _, _, _, _, _, rfl, (e3.but Ap bu).ins, T.cl_Deed, T.na_Deed_what, deedF_what, rfl, _, rfl, ifF (by rw [vi_eq]; omega) ?_⟩
          refine ⟨_, rfl, _, _, _, _, _, rfl, (e3.but Ap bu).ins, T.cl_Deed, T.na_Deed_what, deedF_what, rfl, _, rfl, ifF (by rw [vi_eq]; omega) ?_⟩
          refine ⟨_, rfl, _, _, _, _, _, rfl, (e3.but Ap bu).ins, T.cl_Deed, T.na_Deed_what, deedF_what, rfl, _, rfl, ifF (by rw [vi_eq]; omega) ?_⟩
          exact ⟨_, _, pa ++ [e3.wd], pb, aa ++ [dWord cm.d], bb, pn, y, l, rfl, Same.mut s1 na, upd_same.trans (by rw [List.map_append]; rfl), by rw [upd_ne nab.symm]; exact hB, rA, rB, Ap.line But.upd hy, ly, by rw [List.length_append]; show pa.length + 1 ≤ _; omega, by omega, inv⟩
        rw [vi_eq] at c5
        refine ⟨_, rfl, _, _, _, _, _, rfl, e3.ins, T.cl_Deed, T.na_Deed_what, deedF_what, rfl, _, rfl, ?_⟩
        refine ifP (fun c6 => ?_) (fun c6 => ?_)
        · rw [vi_eq] at c6
          have ed := ds.2.2.2.1 (by omega)
          rw [ed] at inv
          refine ⟨_, rfl, tyL hB, _, rfl, _, _, _, _, _, rfl, e3.ins, T.cl_Deed, T.na_Deed_word, deedF_word, lb, _, _, rfl, rfl, hB, by rw [List.length_map]; exact smallL (by omega), ?_⟩
          have Ap := Apart.lst hB
          have bu := But.upd (d := lb) (H := H1) (o := .lst (pb.map V.ref ++ [.ref e3.wd]))
          replace rB := (rB.but Ap bu).snoc (Ap.line bu e3.word)
          replace rA := rA.but Ap bu
          refine ⟨_, rfl, _, _, _, _, _, rfl, (e3.but Ap bu).ins, T.cl_Deed, T.na_Deed_what, deedF_what, rfl, _, rfl, ifF (by rw [vi_eq]; omega) ?_⟩
          refine ⟨_, rfl, _, _, _, _, _, rfl, (e3.but Ap bu).ins, T.cl_Deed, T.na_Deed_what, deedF_what, rfl, _, rfl, ifF (by rw [vi_eq]; omega) ?_⟩
          exact ⟨_, _, pa, pb ++ [e3.wd], aa, bb ++ [dWord cm.d], pn, y, l, rfl, Same.mut s1 nb0, by rw [upd_ne nab]; exact hA, upd_same.trans (by rw [List.map_append]; rfl), rA, rB, Ap.line But.upd hy, ly, by omega, by rw [List.length_append]; show pb.length + 1 ≤ _; omega, inv⟩
        rw [vi_eq] at c6
        refine ⟨_, rfl, _, _, _, _, _, rfl, e3.ins, T.cl_Deed, T.na_Deed_what, deedF_what, rfl, _, rfl, ?_⟩
        refine ifP (fun c7 => ?_) (fun c7 => ?_)
        · rw [vi_eq] at c7
          have ed := ds.2.2.2.2.1 (by omega)
          rw [ed] at inv
          refine ⟨_, rfl, _, _, _, _, _, rfl, e3.ins, T.cl_Deed, T.na_Deed_word, deedF_word, ?_⟩
          refine ⟨_, rfl, _, _, _, _, _, rfl, e3.ins, T.cl_Deed, T.na_Deed_what, deedF_what, rfl, _, rfl, ifF (by rw [vi_eq]; omega) ?_⟩
          exact ⟨_, _, pa, pb, aa, bb, e3.wd, dWord cm.d, l, rfl, s1, hA, hB, rA, rB, e3.word, Nat.le_trans (wc.put _ (by rw [put_what, if_pos (by simp; omega)]; exact List.mem_singleton.mpr rfl)).2 (by omega), by omega, by omega, inv⟩
        rw [vi_eq] at c7
        refine ⟨_, rfl, _, _, _, _, _, rfl, e3.ins, T.cl_Deed, T.na_Deed_what, deedF_what, rfl, _, rfl, ?_⟩
        refine ifP (fun c8 => ?_) (fun c8 => ?_)
        · rw [vi_eq] at c8
          have ed := ds.2.2.2.2.2.1 (by omega)
          rw [ed] at inv
          exact ⟨_, rfl, _, _, _, _, _, rfl, e3.ins, T.cl_Deed, T.na_Deed_many, deedF_many, _, _, pa, pb, aa, bb, pn, y, dMany cm.d, rfl, s1, hA, hB, rA, rB, hy, ly, by omega, by omega, inv⟩
        rw [vi_eq] at c8
        refine ⟨_, _, pa, pb, aa, bb, pn, y, l, rfl, s1, hA, hB, rA, rB, hy, ly, by omega, by omega, ?_⟩
        rw [inv]
        have := ds.2.2.2.2.2.2 (by omega) (by omega) (by omega) (by omega) (by omega) (by omega)
        rcases this with ⟨_, _, z⟩ | ⟨_, _, z⟩ | z | z | z <;> rw [z]
      · rw [if_neg (by rw [c2]; exact Bool.false_ne_true)] at inv
        exact ⟨_, _, pa, pb, aa, bb, pn, y, l, rfl, s1, hA, hB, rA, rB, hy, ly, by omega, by omega, inv⟩
    · rintro σ H' ⟨v1, v2, pa, pb, aa, bb, pn, y, l, rfl, s1, hA, hB, rA, rB, hy, ly, na', nb', inv⟩
      rw [List.length_map, las, List.drop_length] at inv
      rw [List.length_map, las] at na' nb'
      exact fin H' v1 v2 pa pb aa bb pn y l s1 hA hB rA rB hy (by omega) (by omega) inv
end
end Lw

/-! runs: runners -/
namespace Lw
open PySem PySem.Spec PyProof.Rows L2
open VasedBase (Bytes PTok Toks)
open Vaseda (Deed Cmd Script Line)

/-! ### keys -/
def numK (x : Bytes) : List NK := x.map fun c => NestedKey.num (c.toNat : Int)
def lineK (x : Bytes) : NK := .tup (numK x)
def boolK (b : Bool) : NK := .num (if b = true then 1 else 0)
def comeK (x : Bytes) (k : Nat) (b : Bool) : NK := .tup [lineK x, .num (k : Int), boolK b]
theorem numK_at {H : Hp} : ∀ x : Bytes, NKAll H (numK x) (vl x)
  | [] => .nil
  | c :: x => .cons (.int _) (numK_at x)
theorem lineK_at {H : Hp} {a : PySem.Addr} {x : Bytes} (h : H a = some (.tup (vl x))) : NKAt H (lineK x) (.ref a) := .tup h (numK_at x)
theorem comeK_at {H : Hp} {p a : PySem.Addr} {x : Bytes} {k : Nat} {b : Bool} (h : H a = some (.tup (vl x))) (hp : H p = some (.tup [.ref a, .int (k : Int), .bl b])) : NKAt H (comeK x k b) (.ref p) := .tup hp (.cons (lineK_at h) (.cons (.int _) (.cons (.bl b) .nil)))
theorem numK_inj : ∀ {x y : Bytes}, numK x = numK y → x = y
  | [], [], _ => rfl
  | [], _ :: _, h => by cases h
  | _ :: _, [], h => by cases h
  | a :: x, b :: y, h => by
    have h' := List.cons.inj (show NestedKey.num (a.toNat : Int) :: numK x = NestedKey.num (b.toNat : Int) :: numK y from h)
    have e : (a.toNat : Int) = (b.toNat : Int) := NestedKey.num.inj h'.1
    rw [UInt8.toNat_inj.mp (show a.toNat = b.toNat by omega), numK_inj h'.2]
theorem lineK_inj {x y : Bytes} (h : lineK x = lineK y) : x = y := numK_inj (NestedKey.tup.inj h)
theorem boolK_inj {a b : Bool} (h : boolK a = boolK b) : a = b := by
  have := NestedKey.num.inj h
  revert this
  cases a <;> cases b <;> simp
theorem comeK_inj {x y : Bytes} {k l : Nat} {b c : Bool} (h : comeK x k b = comeK y l c) : x = y ∧ k = l ∧ b = c := by
  have h1 := List.cons.inj (NestedKey.tup.inj h)
  have h2 := List.cons.inj h1.2
  have h3 := List.cons.inj h2.2
  have e : (k : Int) = (l : Int) := NestedKey.num.inj h2.1
  exact ⟨lineK_inj h1.1, by omega, boolK_inj h3.1⟩
theorem numK_depth : ∀ x : Bytes, NestedKey.depthAll (numK x) = 0
  | [] => rfl
  | c :: x => by
    show NestedKey.depthAll (.num _ :: numK x) = 0
    rw [NestedKey.depthAll, numK_depth x]
    rfl
theorem lineK_depth (x : Bytes) : (lineK x).depth = 1 := by
  unfold lineK
  rw [NestedKey.depth, numK_depth]
theorem comeK_depth (x : Bytes) (k : Nat) (b : Bool) : (comeK x k b).depth ≤ 8 := by
  unfold comeK boolK
  simp only [NestedKey.depth, NestedKey.depthAll, lineK_depth]
  decide

/-! ### runners -/
theorem DN.apart {P : Program} {w : World} {H : Hp} {d : PySem.Addr} {kvs : List (NK × V)} (h : DN P w H d kvs) : Apart H d := let ⟨_, e, _⟩ := h.ex; Apart.ext e
theorem DN.but {P : Program} {w : World} {H H' : Hp} {d e : PySem.Addr} {kvs : List (NK × V)} (h : DN P w H d kvs) (A : Apart H e) (b : But e H H') (ne : d ≠ e) : DN P w H' d kvs := by
  obtain ⟨xs, ex, n, z, nd, r⟩ := h.ex
  exact ⟨xs, b _ _ ne ex, n, z, nd, Paired.mapP r fun p q y => ⟨y.1, ⟨y.2.1.1.tups fun _ _ hb => A.line b hb, y.2.1.2⟩, y.2.2⟩⟩
theorem but_mut {d l : PySem.Addr} {H H1 : Hp} {o : HO} (b : But d H H1) (h : H l = none) : But d H (upd H1 l o) := fun c u hc e => by
  rw [upd_ne (ne_of_none e h)]
  exact b c u hc e
theorem but_but {d e : PySem.Addr} {H H1 H2 : Hp} (b : But d H H1) (b2 : But e H1 H2) (h : H e = none) : But d H H2 := fun c u hc x => b2 c u (ne_of_none x h) (b c u hc x)
theorem but_pre {d : PySem.Addr} {H H1 H2 : Hp} (s : Same H H1) (b : But d H1 H2) : But d H H2 := fun c u hc x => b c u hc (s c u x)
def rnF (c d : PySem.Addr) : List (Str × V) := [("commands", .ref c), ("known", .ref d)]
structure RunAt (P : Program) (w : World) (ad : Ad) (H : Hp) (r d c : PySem.Addr) (s : Script) (n : Nat) : Prop where
  ins : ∃ dx, H r = some (.ins ad.cRunner dx (rnF c d))
  cmds : CmdsAt ad H c s
  dict : ∃ kvs, DN P w H d kvs ∧ kvs.length ≤ n ∧ ∀ x k b v, valV kvs (comeK x k b) = some v → ∃ p, v = .ref p ∧ LinesT H p (Rn.come k b s [] [] x 0)
section
variable {P : Program} {w : World} {ad : Ad} {H H' : Hp} {r d c e : PySem.Addr} {s : Script} {n m : Nat}
theorem RunAt.same (t : Same H H') (h : RunAt P w ad H r d c s n) : RunAt P w ad H' r d c s n where
  ins := let ⟨dx, e⟩ := h.ins; ⟨dx, t _ _ e⟩
  cmds := h.cmds.same t
  dict := let ⟨kvs, e1, e2, e3⟩ := h.dict; ⟨kvs, e1.same t, e2, fun x k b v hv => let ⟨p, a1, a2⟩ := e3 x k b v hv; ⟨p, a1, a2.same t⟩⟩
theorem RunAt.mono (z : n ≤ m) (h : RunAt P w ad H r d c s n) : RunAt P w ad H r d c s m where
  ins := h.ins
  cmds := h.cmds
  dict := let ⟨kvs, e1, e2, e3⟩ := h.dict; ⟨kvs, e1, Nat.le_trans e2 z, e3⟩
theorem RunAt.apart (h : RunAt P w ad H r d c s n) : Apart H d := let ⟨_, e, _⟩ := h.dict; e.apart
theorem RunAt.but (h : RunAt P w ad H r d c s n) (A : Apart H e) (b : But e H H') (hr : r ≠ e) (hd : d ≠ e) (hc : c ≠ e) : RunAt P w ad H' r d c s n where
  ins := let ⟨dx, x⟩ := h.ins; ⟨dx, b _ _ hr x⟩
  cmds := h.cmds.but A b hc
  dict := let ⟨kvs, e1, e2, e3⟩ := h.dict; ⟨kvs, e1.but A b hd, e2, fun x k b' v hv => let ⟨p, a1, a2⟩ := e3 x k b' v hv; ⟨p, a1, a2.but A b⟩⟩
theorem RunAt.dext (h : RunAt P w ad H r d c s n) : ∃ φ, H d = some (.ext φ) := let ⟨_, e, _⟩ := h.dict; let ⟨_, x, _⟩ := e.ex; ⟨_, x⟩
theorem RunAt.rd (h : RunAt P w ad H r d c s n) (h' : ∃ φ, H e = some (.ext φ)) : r ≠ e := fun z => by
  obtain ⟨_, x⟩ := h'
  obtain ⟨dx, y⟩ := h.ins
  rw [z, x] at y
  cases y
theorem RunAt.cd (h : RunAt P w ad H r d c s n) (h' : ∃ φ, H e = some (.ext φ)) : c ≠ e := fun z => by
  obtain ⟨_, x⟩ := h'
  obtain ⟨dx, y, _⟩ := h.cmds
  rw [z, x] at y
  cases y
theorem lines_ne {p : PySem.Addr} {l : List Line} (h : LinesL H p l) (h' : ∃ φ, H e = some (.ext φ)) : p ≠ e := fun z => by
  obtain ⟨_, x⟩ := h'
  obtain ⟨dx, y, _⟩ := h
  rw [z, x] at y
  cases y
noncomputable def RunAt.dx (h : RunAt P w ad H r d c s n) : PySem.Addr := Classical.choose h.ins
theorem RunAt.insE (h : RunAt P w ad H r d c s n) : H r = some (.ins ad.cRunner h.dx (rnF c d)) := Classical.choose_spec h.ins
theorem RunAt.live (h : RunAt P w ad H r d c s n) (l : PySem.Addr) (nl : H l = none) : r ≠ l ∧ d ≠ l ∧ c ≠ l := by
  obtain ⟨_, x⟩ := h.dext
  obtain ⟨_, y, _⟩ := h.cmds
  exact ⟨ne_of_none h.insE nl, ne_of_none x nl, ne_of_none y nl⟩
end
theorem rnF_come {c d : PySem.Addr} : (rnF c d).lookup ("come" : Str) = none := (lk2 (by decide +kernel)).trans ((lk2 (by decide +kernel)).trans rfl)
theorem rnF_commands {c d : PySem.Addr} : (rnF c d).lookup ("commands" : Str) = some (.ref c) := lk1
theorem rnF_known {c d : PySem.Addr} : (rnF c d).lookup ("known" : Str) = some (.ref d) := (lk2 (by decide +kernel)).trans lk1
section
variable {P : Program} {w : World} {K : PySem.W.Frag} {mg : Str → Option Value} {base : Heap} {ad : Ad}
theorem sc_Runner_init : FnScope N_Runner_init P_Runner_init (defScope s_Runner_init) := ⟨rfl, rfl, rfl, by decide +kernel, rfl, by decide +kernel, by decide +kernel⟩
def sp_Runner_init (P : Program) (w : World) (ad : Ad) : Sp := fun vs H Q _ => ∃ (p dx c : PySem.Addr) (s : Script), vs = [.ref p, .ref c] ∧ H p = some (.ins ad.cRunner dx []) ∧ CmdsAt ad H c s ∧
  ∀ H' d, But p H H' → H d = none → RunAt P w ad H' p d c s 0 → Q .non H'
theorem ok_Runner_init (T : Txt K mg ad) : OkI P w K mg base CX0 1 ad.cRunner "Runner" P_Runner_init (sp_Runner_init P w ad) := by
  obtain ⟨f, fd, M, hm, F, hb⟩ := T.d_Runner_init
  refine ⟨f, fd, M, hm, hb, F.ok sc_Runner_init (fun vs H Q E h => ?_) (fun cdv A outer s H vs Q E hr h => ⟨_, (pss_cons (ps_fld (pv 0) (pv 1) rfl)
     (pss_one (ps_fld (pv 0) pe_nnew rfl))), ?_⟩)⟩
  · obtain ⟨p, dx, c, s, rfl, _⟩ := h
    rfl
  · obtain ⟨p, dx, c, s, rfl, hp, hC, k⟩ := h
    refine ⟨_, rfl, _, rfl, p, _, dx, _, rfl, hp, T.cl_Runner, T.na_Runner_commands, by decide, ?_⟩
    intro d H1 nd s1 hd
    refine ⟨_, rfl, p, _, dx, _, rfl, s1 _ _ upd_same, T.cl_Runner, T.na_Runner_known, by show 1 < 1000; decide, ?_⟩
    have np : ∀ C dx (fs : List (Str × V)), upd H p (.ins C dx fs) p = some (.ins C dx fs) := fun _ _ _ => upd_same
    have ndp : d ≠ p := fun z => by rw [z, upd_same] at nd; cases nd
    have nd0 : H d = none := by rw [upd_ne ndp] at nd; exact nd
    have A0 : Apart H p := ⟨fun ys e => (by rw [hp] at e; cases e), fun C dx k v r _ e => (by rw [hp] at e; cases e)⟩
    have ncp : c ≠ p := fun z => by
      obtain ⟨as, e, _⟩ := hC
      rw [z, hp] at e
      cases e
    have bb : But p H (upd H1 p (.ins ad.cRunner dx (putF ("known" : Str) (.ref d) (putF ("commands" : Str) (.ref c) [])))) := fun b o hb e => by
      rw [upd_ne hb]
      exact s1 b o (by rw [upd_ne hb]; exact e)
    have A1 : Apart H1 p := Apart.insK (s1 _ _ upd_same) (by decide +kernel) (by decide +kernel)
    refine k _ d bb nd0 ⟨⟨dx, upd_same.trans ?_⟩, hC.but A0 bb ncp, [], hd.but A1 But.upd ndp, Nat.le_refl _, fun x k b v hv => by rw [valV_nil] at hv; cases hv⟩
    rw [pt0, pt2 (by decide +kernel), pt0]
    rfl
theorem sc_Runner_come : FnScope N_Runner_come P_Runner_come (defScope s_Runner_come) := ⟨rfl, rfl, rfl, by decide +kernel, rfl, by decide +kernel, by decide +kernel⟩
def sp_Runner_come (P : Program) (w : World) (ad : Ad) : Sp := fun vs H Q _ => ∃ (r a : PySem.Addr) (x : Line) (k : Nat) (b : Bool) (d c : PySem.Addr) (s : Script) (n : Nat), vs = [.ref r, .ref a, .int (k : Int), .bl b] ∧ RunAt P w ad H r d c s n ∧ Rn.Wf s ∧ s.length ≤ 64 ∧ n ≤ 10000000 ∧ H a = some (.tup (vl x)) ∧ x.length ≤ 64 ∧
  ∀ H' p, But d H H' → RunAt P w ad H' r d c s (n + 1) → LinesT H' p (Rn.come k b s [] [] x 0) → Q (.ref p) H'
theorem ok_Runner_come (T : Txt K mg ad) : OkM P w K mg base CX0 5 ad.cRunner "come" P_Runner_come (sp_Runner_come P w ad) := by
  obtain ⟨f, fd, M, F, hb⟩ := T.d_Runner_come
  have G_come_of : OkD P w K mg base CX0 4 "come_of" P_come_of (sp_come_of ad) := ok_come_of T
  refine ⟨f, fd, M, hb, F.ok sc_Runner_come (fun vs H Q E h => ?_) (fun cdv A outer s H vs Q E hr h => ⟨_, (pss_cons (ps_set (i := 4) sc_Runner_come.nd rfl (Or.inl rfl) (pe_tup (pa_cons (pv 1) (pa_cons (pv 2) (pa_cons (pv 3) pa_nil)))))
     (pss_cons (ps_if (pt_cmp (pc_nnotin hr.units (pv 4) (pe_fld (pv 0) rfl)))
     (pss_one (ps_nput hr.units (pe_fld (pv 0) rfl) (pv 4) (pe_callD (G_come_of) (hr.mono (by decide)) pass0 (pa_cons (pe_fld (pv 0) rfl) (pa_cons (pv 1) (pa_cons (pv 2) (pa_cons (pv 3) pa_nil))))) rfl))
     pss_nil)
     (pss_one (ps_ret (pe_nget hr.units (pe_fld (pv 0) rfl) (pv 4) (fun _ _ => rfl)))))), ?_⟩)⟩
  · obtain ⟨r, a, x, k, b, d, c, s, n, rfl, _⟩ := h
    rfl
  · obtain ⟨r, a, x, k, b, d, c, s, n, rfl, R, wf, ls, hn, hx, lx, q⟩ := h
    refine ⟨_, rfl, _, rfl, _, rfl, by show 3 ≤ sizeLine; decide, fun key nk => ?_⟩
    have s1 := Same.new (o := .tup [.ref a, .int (k : Int), .bl b]) nk
    have get : ∀ H2 p, But d H H2 → RunAt P w ad H2 r d c s (n + 1) → H2 a = some (.tup (vl x)) → H2 key = some (.tup [.ref a, .int (k : Int), .bl b]) → (∃ kvs, DN P w H2 d kvs ∧ valV kvs (comeK x k b) = some (.ref p)) → LinesT H2 p (Rn.come k b s [] [] x 0) →
        tRet (tNGet P w (tFld K (tVar 0) "known") (tVar 4)) { nx := fun _ H' => Q V.non H', rt := Q } [some (.ref r), some (.ref a), some (.int (k : Int)), some (.bl b), some (.ref key)] H2 := by
      intro H2 p b2 R2 ha2 hk2 hv hL
      obtain ⟨kvs, D, ev⟩ := hv
      exact ⟨_, rfl, r, _, _, _, _, rfl, R2.insE, T.cl_Runner, T.na_Runner_known, rnF_known, _, rfl, d, key, kvs, comeK x k b, _, rfl, rfl, D, comeK_at ha2 hk2, comeK_depth x k b, ev, q H2 p b2 R2 hL⟩
    replace R := R.same s1
    obtain ⟨kvs, D, lk, hv⟩ := R.dict
    refine ⟨_, rfl, _, rfl, r, _, _, _, _, rfl, R.insE, T.cl_Runner, T.na_Runner_known, rnF_known, d, key, kvs, comeK x k b, rfl, rfl, D, comeK_at (s1 _ _ hx) upd_same, comeK_depth x k b, _, rfl, ?_⟩
    refine ifB (fun c1 => ?_) (fun c1 => ?_)
    · refine ⟨_, rfl, r, _, _, _, _, rfl, R.insE, T.cl_Runner, T.na_Runner_commands, rnF_commands, _, rfl, _, rfl, _, rfl, c, a, s, x, k, b, rfl, R.cmds, wf, ls, s1 _ _ hx, lx, fun H2 p s2 hL => ?_⟩
      replace R := R.same s2
      replace D := D.same s2
      have hx2 := s2 _ _ (s1 _ _ hx)
      have hk2 := s2 _ _ (upd_same (H := H) (a := key) (o := .tup [.ref a, .int (k : Int), .bl b]))
      refine ⟨_, rfl, r, _, _, _, _, rfl, R.insE, T.cl_Runner, T.na_Runner_known, rnF_known, _, rfl, d, key, kvs, comeK x k b, rfl, rfl, D, comeK_at hx2 hk2, comeK_depth x k b, Nat.lt_of_le_of_lt (Nat.le_trans lk hn) (by decide), fun H3 b3 D3 => ?_⟩
      have A := R.apart
      obtain ⟨dx, e1⟩ := R.ins
      have hL3 := hL.but A b3
      refine get H3 p (but_pre (s1.trans s2) b3) ⟨⟨dx, b3 _ _ (R.rd R.dext) e1⟩, R.cmds.but A b3 (R.cd R.dext), _, D3, Nat.le_trans (length_putK _ _ _) (by omega), fun y l e v hv' => ?_⟩ (A.line b3 hx2) (A.line b3 hk2) ⟨_, D3, by rw [valV_put, if_pos rfl]⟩ hL3
      rw [valV_put] at hv'
      by_cases z : comeK y l e = comeK x k b
      · rw [if_pos z] at hv'
        obtain ⟨rfl, rfl, rfl⟩ := comeK_inj z
        exact ⟨p, (Option.some.inj hv').symm, hL3⟩
      · rw [if_neg z] at hv'
        obtain ⟨p', a1, a2⟩ := hv y l e v hv'
        exact ⟨p', a1, (a2.same s2).but A b3⟩
    · obtain ⟨v, ev⟩ := Option.isSome_iff_exists.mp (show (valV kvs (comeK x k b)).isSome = true by simpa using c1)
      obtain ⟨p, rfl, hL⟩ := hv x k b v ev
      exact get _ p (But.of s1) (R.mono (Nat.le_succ n)) (s1 _ _ hx) upd_same ⟨kvs, D, ev⟩ hL
/-! ### runs of texts -/
theorem outs_cons {s : Script} {x : Line} {r : List Line} {k : Nat} : Rn.outs s k (x :: r) = Rn.come k r.isEmpty s [] [] x 0 ++ Rn.outs s (k + 1) r := rfl
theorem last_eq {t : List Line} {i : Nat} (h : i < t.length) : decide (V.int ((i : Int) + 1) = V.int (t.length : Int)) = (t.drop (i + 1)).isEmpty := by
  rw [Bool.eq_iff_iff, decide_eq_true_iff, vi_eq, List.isEmpty_iff, List.drop_eq_nil_iff]
  omega
theorem wf_len {s : Script} (wf : Rn.Wf s) (w : Bytes) : (∀ c ∈ s, (∀ d, c.d = d → w ∈ Vasedb.putOf d → w.length ≤ 8)) := fun c hc d e hw => ((wf c hc).put w (by rw [e]; exact hw)).2
theorem come_short {s : Script} (wf : Rn.Wf s) (k : Nat) (e : Bool) (N : Nat) (h8 : 8 ≤ N) : ∀ (a b : List Line) (x : Line) (l : Nat), (∀ y ∈ a, y.length ≤ N) → (∀ y ∈ b, y.length ≤ N) → x.length ≤ N → ∀ y ∈ Rn.come k e s a b x l, y.length ≤ N := by
  induction s with
  | nil =>
    intro a b x l ha hb hx y hy
    have hy' : y ∈ a ++ [x] ++ b := hy
    rw [List.mem_append, List.mem_append, List.mem_singleton] at hy'
    rcases hy' with (h | h) | h
    · exact ha y h
    · rw [h]; exact hx
    · exact hb y h
  | cons c r ih =>
    intro a b x l ha hb hx
    have ih := ih fun c hc => wf c (List.mem_cons_of_mem _ hc)
    have hw : ∀ w ∈ Vasedb.putOf c.d, w.length ≤ N := fun w hw => Nat.le_trans ((wf c List.mem_cons_self).put w hw).2 h8
    have sn : ∀ (l : List Line) (w : Line), (∀ y ∈ l, y.length ≤ N) → w.length ≤ N → ∀ y ∈ l ++ [w], y.length ≤ N := fun l w hl hw y hy => by
      rw [List.mem_append, List.mem_singleton] at hy
      rcases hy with h | h
      · exact hl y h
      · rw [h]; exact hw
    have ap : ∀ (l m : List Line), (∀ y ∈ l, y.length ≤ N) → (∀ y ∈ m, y.length ≤ N) → ∀ y ∈ l ++ m, y.length ≤ N := fun l m hl hm y hy => by
      rcases List.mem_append.mp hy with h | h
      · exact hl y h
      · exact hm y h
    rw [Rn.come]
    split
    · exact ih a b x _ ha hb hx
    · split
      · split
        · exact ap a b ha hb
        · exact ap _ b (sn a x ha hx) hb
        · rename_i w e; rw [e] at hw; exact ih _ b x l (sn a w ha (hw w (List.mem_singleton.mpr rfl))) hb hx
        · rename_i w e; rw [e] at hw; exact ih a _ x l ha (sn b w hb (hw w (List.mem_singleton.mpr rfl))) hx
        · rename_i w e; rw [e] at hw; exact ih a b w l ha hb (hw w (List.mem_singleton.mpr rfl))
        · exact ih a b x _ ha hb hx
        · exact ih a b x l ha hb hx
      · exact ih a b x l ha hb hx
theorem outs_short {s : Script} (wf : Rn.Wf s) (N : Nat) (h8 : 8 ≤ N) : ∀ (t : List Line) (k : Nat), (∀ y ∈ t, y.length ≤ N) → ∀ y ∈ Rn.outs s k t, y.length ≤ N
  | [], _, _ => fun y hy => by cases hy
  | x :: r, k, h => fun y hy => by
    rcases List.mem_append.mp (show y ∈ Rn.come k r.isEmpty s [] [] x 0 ++ Rn.outs s (k + 1) r from hy) with q | q
    · exact come_short wf k _ N h8 [] [] x 0 (fun y hy => by cases hy) (fun y hy => by cases hy) (h x List.mem_cons_self) y q
    · exact outs_short wf N h8 r (k + 1) (fun y hy => h y (List.mem_cons_of_mem _ hy)) y q
theorem run_short {s : Script} (wf : Rn.Wf s) {N : Nat} (h8 : 8 ≤ N) {t u : List Line} (h : ∀ y ∈ t, y.length ≤ N) (e : Rn.runP s t = some u) : ∀ y ∈ u, y.length ≤ N := by
  unfold Rn.runP at e
  split at e
  · cases e
  · rw [← Option.some.inj e]
    exact outs_short wf N h8 t 1 h
theorem sc_run : FnScope N_run P_run (defScope s_run) := ⟨rfl, rfl, rfl, by decide +kernel, rfl, by decide +kernel, by decide +kernel⟩
def sp_run (P : Program) (w : World) (ad : Ad) : Sp := fun vs H Q _ => ∃ (r q : PySem.Addr) (t : List Line) (d c : PySem.Addr) (s : Script) (n : Nat), vs = [.ref r, .ref q] ∧ RunAt P w ad H r d c s n ∧ Rn.Wf s ∧ s.length ≤ 64 ∧ n ≤ 9000000 ∧ LinesL H q t ∧ t.length ≤ 100 ∧ (∀ x ∈ t, x.length ≤ 64) ∧
  ∀ H' v, But d H H' → RunAt P w ad H' r d c s (n + 100) → OptAt H' v (Rn.runP s t) → (∀ p, v = .ref p → H p = none) → Q v H'
theorem ok_run (T : Txt K mg ad) : OkD P w K mg base CX0 6 "run" P_run (sp_run P w ad) := by
  obtain ⟨f, fd, hm, F, hb⟩ := T.d_run
  have G_Runner_come : OkM P w K mg base CX0 5 ad.cRunner "come" P_Runner_come (sp_Runner_come P w ad) := ok_Runner_come T
  refine ⟨f, fd, hm, F.kp, hb, F.ok sc_run (fun vs H Q E h => ?_) (fun cdv A outer s H vs Q E hr h => ⟨_, (pss_cons (ps_set (i := 2) sc_run.nd rfl (Or.inl rfl) (pe_lst pa_nil))
     (pss_cons (ps_for PassesOwn.never rfl (pi_range1 rfl T.n_range (pa_cons (pe_callB call_len_seq (by rfl) T.n_len PySem.boot_len (pa_cons (pv 1) pa_nil)) pa_nil)) (pg_name (i := 3) sc_run.nd rfl (Or.inl rfl))
     (pss_cons (ps_expr (pe_bm PySem.F.plainAttrs_list PySem.F.slot_list_extend PySem.F.type_list_extend mt_extT (pv 2) (pa_cons (pe_methD (pv 0) T.cl_Runner (G_Runner_come) (hr.mono (by decide)) pass0 (pa_cons (pe_ix ix_list (pv 1) (pv 3) (fun _ _ => rfl)) (pa_cons (pe_op op_add (pv 3) pe_int) (pa_cons (pe_cmpR op_eq (pe_op op_add (pv 3) pe_int) (pe_callB call_len_seq (by rfl) T.n_len PySem.boot_len (pa_cons (pv 1) pa_nil)) (nomark _)) pa_nil)))) pa_nil)))
     (pss_one (ps_if (pt_cmpR op_gt (pe_callB call_len_seq (by rfl) T.n_len PySem.boot_len (pa_cons (pv 2) pa_nil)) pe_int (nomark _))
     (pss_one (ps_ret pe_non))
     pss_nil))))
     (pss_one (ps_ret (pv 2))))), ?_⟩)⟩
  · obtain ⟨r, q, t, d, c, s, n, rfl, _⟩ := h
    rfl
  · obtain ⟨r, q, t, d, c, s, n, rfl, R, wf, ls, hn, ⟨ts, hT, rT⟩, lt, st, k⟩ := h
    have lts : ts.length = t.length := rT.length
    have qd : q ≠ d := lines_ne ⟨ts, hT, rT⟩ R.dext
    refine ⟨by show 0 ≤ sizeLine; decide, fun l nl => ?_⟩
    obtain ⟨nrl, ndl, ncl⟩ := R.live l nl
    have s0 : Same H (upd H l (.lst [])) := Same.new nl
    have nql : q ≠ l := ne_of_none hT nl
    refine ⟨_, rfl, q, _, rfl, SqLo (s0 _ _ hT), _, rfl, (r62 (by rw [List.length_map]; omega)).1, (r62 (by rw [List.length_map]; omega)).2, for_range (fun i σ H' => ∃ (v : Option V) (as : List PySem.Addr) (acc : List Line), σ = [some (.ref r), some (.ref q), some (.ref l), v] ∧ But d H H' ∧ RunAt P w ad H' r d c s (n + i) ∧
        H' l = some (.lst (as.map V.ref)) ∧ LinesR H' as acc ∧ acc.length ≤ 60 ∧ Rn.outs s 1 t = acc ++ Rn.outs s (i + 1) (t.drop i)) ⟨none, [], [], rfl, But.of s0, R.same s0, upd_same, .nil, Nat.zero_le _, rfl⟩ ?_ ?_⟩
    · rintro i σ H' hi ⟨v, as, acc, rfl, b1, R1, hL, rL, la, inv⟩
      have hi' : i < t.length := by rw [List.length_map] at hi; omega
      obtain ⟨x, hx⟩ : ∃ x, t[i]? = some x := ⟨t[i], List.getElem?_eq_getElem hi'⟩
      obtain ⟨a, ha, hax⟩ := paired_get' rT hx
      have A0 := R.apart
      have hT1 := b1 _ _ qd hT
      have hax1 := A0.line b1 hax
      rw [Int.zero_add]
      refine ⟨_, rfl, tyL hL, _, rfl, r, _, _, rfl, R1.insE, rnF_come, _, rfl, _, rfl, q, _, _, .ref a, rfl, rfl, SqL.of hT1, atI_nat (by rw [List.getElem?_map, ha]; rfl), ?_⟩
      refine ⟨_, rfl, _, _, rfl, rfl, _, rfl, _, _, rfl, rfl, _, rfl, q, _, rfl, SqLo hT1, rfl, ?_⟩
      refine ⟨r, a, x, i + 1, _, d, c, s, n + i, rfl, R1, wf, ls, by omega, hax1, st x (List.mem_of_getElem? hx), fun H2 p b2 R2 hp => ?_⟩
      rw [List.length_map, lts, last_eq hi'] at hp
      obtain ⟨ps, hP, rP⟩ := hp
      have A1 := R1.apart
      have hL2 := b2 _ _ ndl.symm hL
      have rL2 := rL.but A1 b2
      have lps := rP.length
      have lcome := Rn.come_len (i + 1) ((t.drop (i + 1)).isEmpty) s [] [] x 0
      have las := rL.length
      refine ⟨l, p, _, _, rfl, rfl, hL2, SqT.of hP, small (by rw [List.length_map, List.length_map]; simp only [List.length_nil] at lcome; omega), ?_⟩
      have Al := Apart.lst hL2
      have bu := But.upd (d := l) (H := H2) (o := .lst (as.map V.ref ++ ps.map V.ref))
      have R3 := R2.but Al bu nrl ndl ncl
      have rL3 := (rL2.append rP).but Al bu
      have l3 : upd H2 l (.lst (as.map V.ref ++ ps.map V.ref)) l = some (.lst ((as ++ ps).map V.ref)) := upd_same.trans (by rw [List.map_append])
      have b3 : But d H (upd H2 l (.lst (as.map V.ref ++ ps.map V.ref))) := but_mut (b1.trans b2) nl
      rw [Lx.drop_at' hx] at inv
      rw [outs_cons] at inv
      replace inv : Rn.outs s 1 t = (acc ++ Rn.come (i + 1) ((t.drop (i + 1)).isEmpty) s [] [] x 0) ++ Rn.outs s (i + 1 + 1) (t.drop (i + 1)) := by rw [inv, List.append_assoc]
      have l4 := rL3.length
      refine ⟨_, rfl, l, _, rfl, SqLo l3, _, _, rfl, rfl, _, rfl, ?_⟩
      rw [List.length_map, l4]
      refine ifP (fun c1 => ?_) (fun c1 => ?_)
      · have e : Rn.runP s t = none := by
          unfold Rn.runP
          rw [inv, if_pos (by rw [List.length_append]; omega)]
        rw [e] at k
        exact k _ _ b3 (R3.mono (by omega)) trivial fun p z => by cases z
      · exact ⟨_, _, _, rfl, b3, R3, l3, rL3, by omega, inv⟩
    · rintro σ H' ⟨v, as, acc, rfl, b1, R1, hL, rL, la, inv⟩
      have z : ((List.map V.ref ts).length : Int).toNat = t.length := by rw [List.length_map, lts]; omega
      rw [z] at inv R1
      rw [List.drop_length] at inv
      replace inv : Rn.outs s 1 t = acc := by rw [inv]; exact List.append_nil acc
      have e : Rn.runP s t = some acc := by
        unfold Rn.runP
        rw [inv, if_neg (by omega)]
      rw [e] at k
      exact ⟨_, rfl, k H' _ b1 (R1.mono (by omega)) ⟨as, hL, rL⟩ fun p z => by cases z; exact nl⟩
/-- d1 and d2 alone may change -/
def But2 (d1 d2 : PySem.Addr) (H H' : Hp) : Prop := ∀ c o, c ≠ d1 → c ≠ d2 → H c = some o → H' c = some o
/-- two runners, which may be one -/
structure Two (P : Program) (w : World) (ad : Ad) (B : Hp → Nat → Prop) (r1 d1 c1 : PySem.Addr) (s1 : Script) (r2 d2 c2 : PySem.Addr) (s2 : Script) : Prop where
  one : ∀ H n, B H n → RunAt P w ad H r1 d1 c1 s1 n
  two : ∀ H n, B H n → RunAt P w ad H r2 d2 c2 s2 n
  stepA : ∀ H H' n m, B H n → But d1 H H' → RunAt P w ad H' r1 d1 c1 s1 m → n ≤ m → B H' m
  stepB : ∀ H H' n m, B H n → But d2 H H' → RunAt P w ad H' r2 d2 c2 s2 m → n ≤ m → B H' m
  new : ∀ H H' n, B H n → Same H H' → B H' n
theorem Two.swap {P : Program} {w : World} {ad : Ad} {B : Hp → Nat → Prop} {r1 d1 c1 : PySem.Addr} {s1 : Script} {r2 d2 c2 : PySem.Addr} {s2 : Script} (t : Two P w ad B r1 d1 c1 s1 r2 d2 c2 s2) : Two P w ad B r2 d2 c2 s2 r1 d1 c1 s1 := ⟨t.two, t.one, t.stepB, t.stepA, t.new⟩
def Both (P : Program) (w : World) (ad : Ad) (r1 d1 c1 : PySem.Addr) (s1 : Script) (r2 d2 c2 : PySem.Addr) (s2 : Script) (H : Hp) (n : Nat) : Prop := RunAt P w ad H r1 d1 c1 s1 n ∧ RunAt P w ad H r2 d2 c2 s2 n
theorem two_of {P : Program} {w : World} {ad : Ad} {r1 d1 c1 : PySem.Addr} {s1 : Script} {r2 d2 c2 : PySem.Addr} {s2 : Script} (ne : d1 ≠ d2) : Two P w ad (Both P w ad r1 d1 c1 s1 r2 d2 c2 s2) r1 d1 c1 s1 r2 d2 c2 s2 where
  one := fun _ _ h => h.1
  two := fun _ _ h => h.2
  stepA := fun _ _ _ _ h b R z => ⟨R, (h.2.but h.1.apart b (h.2.rd h.1.dext) ne.symm (h.2.cd h.1.dext)).mono z⟩
  stepB := fun _ _ _ _ h b R z => ⟨(h.1.but h.2.apart b (h.1.rd h.2.dext) ne (h.1.cd h.2.dext)).mono z, R⟩
  new := fun _ _ _ h s => ⟨h.1.same s, h.2.same s⟩
theorem two_one {P : Program} {w : World} {ad : Ad} {r d c : PySem.Addr} {s : Script} : Two P w ad (fun H n => RunAt P w ad H r d c s n) r d c s r d c s where
  one := fun _ _ h => h
  two := fun _ _ h => h
  stepA := fun _ _ _ _ _ _ R _ => R
  stepB := fun _ _ _ _ _ _ R _ => R
  new := fun _ _ _ h s => h.same s
theorem But.two1 {d1 d2 : PySem.Addr} {H H' : Hp} (b : But d1 H H') : But2 d1 d2 H H' := fun c o h _ e => b c o h e
theorem But.two2 {d1 d2 : PySem.Addr} {H H' : Hp} (b : But d2 H H') : But2 d1 d2 H H' := fun c o _ h e => b c o h e
theorem But2.trans {d1 d2 : PySem.Addr} {H H1 H2 : Hp} (a : But2 d1 d2 H H1) (b : But2 d1 d2 H1 H2) : But2 d1 d2 H H2 := fun c o h h' e => b c o h h' (a c o h h' e)
theorem But2.of {d1 d2 : PySem.Addr} {H H' : Hp} (s : Same H H') : But2 d1 d2 H H' := fun c o _ _ e => s c o e
theorem But2.comm {d1 d2 : PySem.Addr} {H H' : Hp} (b : But2 d1 d2 H H') : But2 d2 d1 H H' := fun c o h h' e => b c o h' h e
theorem But2.one {d : PySem.Addr} {H H' : Hp} (b : But2 d d H H') : But d H H' := fun c o h e => b c o h h e
/-- lines that lie elsewhere stand -/
theorem LinesL.but2 {d1 d2 q : PySem.Addr} {H H' : Hp} {t : List Line} (b : But2 d1 d2 H H') (h1 : ∃ φ, H d1 = some (.ext φ)) (h2 : ∃ φ, H d2 = some (.ext φ)) (h : LinesL H q t) : LinesL H' q t := by
  have n1 := lines_ne h h1
  have n2 := lines_ne h h2
  obtain ⟨as, e, r⟩ := h
  obtain ⟨φ1, e1⟩ := h1
  obtain ⟨φ2, e2⟩ := h2
  refine ⟨as, b _ _ n1 n2 e, r.imp fun a x ea => b _ _ (fun z => ?_) (fun z => ?_) ea⟩
  · rw [z, e1] at ea; cases ea
  · rw [z, e2] at ea; cases ea
theorem CmdsAt.but2 {ad : Ad} {d1 d2 q : PySem.Addr} {H H' : Hp} {t : Script} (b : But2 d1 d2 H H') (h1 : ∃ φ, H d1 = some (.ext φ)) (h2 : ∃ φ, H d2 = some (.ext φ)) (h : CmdsAt ad H q t) : CmdsAt ad H' q t := by
  have ne : ∀ a o, (∃ xs, o = .tup xs) ∨ (∃ C dx fs, o = .ins C dx fs) ∨ (∃ xs, o = .lst xs) → H a = some o → H' a = some o := fun a o ho e => b a o (fun z => by
    obtain ⟨φ, e1⟩ := h1
    rw [z, e1] at e
    obtain rfl := Option.some.inj e
    rcases ho with ⟨_, x⟩ | ⟨_, _, _, x⟩ | ⟨_, x⟩ <;> cases x) (fun z => by
    obtain ⟨φ, e1⟩ := h2
    rw [z, e1] at e
    obtain rfl := Option.some.inj e
    rcases ho with ⟨_, x⟩ | ⟨_, _, _, x⟩ | ⟨_, x⟩ <;> cases x) e
  have tp : ∀ a xs, H a = some (.tup xs) → H' a = some (.tup xs) := fun a xs e => ne a _ (.inl ⟨_, rfl⟩) e
  have is : ∀ a C dx fs, H a = some (.ins C dx fs) → H' a = some (.ins C dx fs) := fun a _ _ _ e => ne a _ (.inr (.inl ⟨_, _, _, rfl⟩)) e
  obtain ⟨as, e, r⟩ := h
  exact ⟨as, ne _ _ (.inr (.inr ⟨_, rfl⟩)) e, Paired.mapP r fun p c ⟨pa, pd, x1, ⟨dx, wd, x2, x3⟩, ⟨dy, we, x4, x5⟩⟩ => ⟨pa, pd, tp _ _ x1, ⟨dx, wd, is _ _ _ _ x2, tp _ _ x3⟩, ⟨dy, we, is _ _ _ _ x4, tp _ _ x5⟩⟩⟩
theorem OptAt.but2 {d1 d2 : PySem.Addr} {H H' : Hp} {v : V} {t : Option (List Line)} (b : But2 d1 d2 H H') (h1 : ∃ φ, H d1 = some (.ext φ)) (h2 : ∃ φ, H d2 = some (.ext φ)) (h : OptAt H v t) : OptAt H' v t := by
  cases t with
  | none => cases v <;> first | exact h | exact trivial
  | some l =>
    cases v <;> first | exact h | exact LinesL.but2 b h1 h2 h
theorem W_mono {P : Program} {w : World} {ad : Ad} {B : Hp → Nat → Prop} {r1 d1 c1 : PySem.Addr} {s1 : Script} {r2 d2 c2 : PySem.Addr} {s2 : Script} {H : Hp} {n : Nat} (W : Two P w ad B r1 d1 c1 s1 r2 d2 c2 s2) (h : B H (n + 100)) : B H (n + 200) :=
  W.stepA _ _ _ _ h (But.of (Same.refl H)) ((W.one _ _ h).mono (by omega)) (by omega)
theorem sc_run_after : FnScope N_run_after P_run_after (defScope s_run_after) := ⟨rfl, rfl, rfl, by decide +kernel, rfl, by decide +kernel, by decide +kernel⟩
def sp_run_after (P : Program) (w : World) (ad : Ad) : Sp := fun vs H Q _ => ∃ (r2 r1 q : PySem.Addr) (t : List Line) (B : Hp → Nat → Prop) (d1 c1 : PySem.Addr) (s1 : Script) (d2 c2 : PySem.Addr) (s2 : Script) (n : Nat), vs = [.ref r2, .ref r1, .ref q] ∧ Two P w ad B r1 d1 c1 s1 r2 d2 c2 s2 ∧ B H n ∧
  Rn.Wf s1 ∧ s1.length ≤ 64 ∧ Rn.Wf s2 ∧ s2.length ≤ 64 ∧ n ≤ 8000000 ∧ LinesL H q t ∧ t.length ≤ 100 ∧ (∀ x ∈ t, x.length ≤ 64) ∧ ∀ H' v, But2 d1 d2 H H' → B H' (n + 200) → OptAt H' v (Rn.nextP s2 (Rn.runP s1 t)) → Q v H'
theorem ok_run_after (T : Txt K mg ad) : OkD P w K mg base CX0 7 "run_after" P_run_after (sp_run_after P w ad) := by
  obtain ⟨f, fd, hm, F, hb⟩ := T.d_run_after
  have G_run : OkD P w K mg base CX0 6 "run" P_run (sp_run P w ad) := ok_run T
  refine ⟨f, fd, hm, F.kp, hb, F.ok sc_run_after (fun vs H Q E h => ?_) (fun cdv A outer s H vs Q E hr h => ⟨_, (pss_cons (ps_set (i := 3) sc_run_after.nd rfl (Or.inl rfl) (pe_callD (G_run) (hr.mono (by decide)) pass0 (pa_cons (pv 1) (pa_cons (pv 2) pa_nil))))
     (pss_cons (ps_if (PW.pt (pw_or (pt_cmpR op_isN (pv 3) pe_non (nomark _)) (pw_or1 (pt_cmpR op_gt (pe_callB call_len_seq (by rfl) T.n_len PySem.boot_len (pa_cons (pv 3) pa_nil)) pe_int (nomark _)))))
     (pss_one (ps_ret pe_non))
     pss_nil)
     (pss_one (ps_ret (pe_callD (G_run) (hr.mono (by decide)) pass0 (pa_cons (pv 0) (pa_cons (pv 3) pa_nil))))))), ?_⟩)⟩
  · obtain ⟨r2, r1, q, t, B, d1, c1, s1, d2, c2, s2, n, rfl, _⟩ := h
    rfl
  · obtain ⟨r2, r1, q, t, B, d1, c1, s1, d2, c2, s2, n, rfl, W, hB, w1, l1, w2, l2, hn, hq, lt, st, k⟩ := h
    refine ⟨_, rfl, _, rfl, r1, q, t, d1, c1, s1, n, rfl, W.one _ _ hB, w1, l1, by omega, hq, lt, st, fun H1 v b1 R1 hv _ => ?_⟩
    have B1 := W.stepA _ _ _ _ hB b1 R1 (by omega)
    refine ⟨_, rfl, rfl, _, rfl, ?_⟩
    cases eu : Rn.runP s1 t with
    | none =>
      rw [eu] at hv k
      have ev : v = .non := by cases v <;> first | rfl | exact hv.elim
      exact ifT ev (k H1 .non b1.two1 (W_mono W B1) trivial)
    | some u =>
      rw [eu] at hv k
      obtain ⟨p, rfl, hu⟩ : ∃ p, v = .ref p ∧ LinesL H1 p u := by
        cases v <;> first | exact ⟨_, rfl, hv⟩ | exact hv.elim
      refine ifF (fun z => nomatch z) ?_
      obtain ⟨as, hL, rL⟩ := id hu
      have las := rL.length
      refine ⟨_, rfl, p, _, rfl, SqLo hL, _, _, rfl, rfl, _, rfl, ?_⟩
      rw [List.length_map, las]
      have hnx : Rn.nextP s2 (some u) = if 24 < u.length then none else Rn.runP s2 u := rfl
      refine ifP (fun c1 => ?_) (fun c1 => ?_)
      · rw [hnx, if_pos (by omega)] at k
        exact k H1 .non b1.two1 (W_mono W B1) trivial
      · rw [hnx, if_neg (by omega)] at k
        refine ⟨_, rfl, _, rfl, r2, p, u, d2, c2, s2, n + 100, rfl, W.two _ _ B1, w2, l2, by omega, hu, by omega, run_short w1 (by decide) st eu, fun H2 v2 b2 R2 hv2 _ => ?_⟩
        exact k H2 v2 (b1.two1.trans b2.two2) (W.stepB _ _ _ _ B1 b2 R2 (by omega)) hv2
end
end Lw

/-! kinds: states -/
namespace Lw
open PySem PySem.Spec PyProof.Rows L2
open VasedBase (Bytes PTok Toks)
open Vaseda (Deed Cmd Script Line)

theorem vl_flat (x : Bytes) : (vl x).all flatV = true := by
  rw [List.all_eq_true]
  intro v hv
  obtain ⟨c, _, rfl⟩ := List.mem_map.mp hv
  rfl
theorem inV_vl (c : UInt8) (x : Bytes) : inV (vb c) (vl x) = x.contains c := by
  have := inV_ints (c.toNat : Int) (x.map fun c => (c.toNat : Int))
  rw [List.map_map] at this
  refine this.trans ?_
  rw [Bool.eq_iff_iff, decide_eq_true_iff, List.contains_iff_mem, List.mem_map]
  constructor
  · rintro ⟨d, hd, e⟩
    rw [← UInt8.toNat_inj.mp (show d.toNat = c.toNat by omega)]
    exact hd
  · intro h
    exact ⟨c, h, rfl⟩
theorem alpha_at {i : Nat} (h : i < 26) : ∃ c : UInt8, Vasedb.alphabet[i]? = some c ∧ V.int (97 + (i : Int)) = vb c := by
  have a : ∀ i : Fin 26, ∃ c : UInt8, Vasedb.alphabet[i.val]? = some c ∧ (c.toNat : Int) = 97 + (i.val : Int) := by decide +kernel
  obtain ⟨c, h1, h2⟩ := a ⟨i, h⟩
  exact ⟨c, h1, congrArg V.int h2.symm⟩
theorem lend_at {q : Bytes → Bool} {x : Bytes} {i : Nat} (hi : i < x.length) (h0 : ∀ m, m < i → q (x.drop m) = false) (h1 : q (x.drop i) = true) : Bfs.lend q x = x.drop i := by
  induction x generalizing i with
  | nil => cases hi
  | cons a r ih =>
    cases i with
    | zero =>
      rw [Bfs.lend, if_pos (show q (a :: r) = true from h1)]
      rfl
    | succ i =>
      have := h0 0 (Nat.zero_lt_succ i)
      rw [Bfs.lend, if_neg (by rw [show q (a :: r) = false from this]; exact Bool.false_ne_true)]
      exact ih (Nat.lt_of_succ_lt_succ hi) (fun m hm => h0 (m + 1) (Nat.succ_lt_succ hm)) h1
theorem lend_none {q : Bytes → Bool} {x : Bytes} (h0 : ∀ m, m < x.length → q (x.drop m) = false) : Bfs.lend q x = [] := by
  induction x with
  | nil => rfl
  | cons a r ih =>
    have := h0 0 (Nat.zero_lt_succ _)
    rw [Bfs.lend, if_neg (by rw [show q (a :: r) = false from this]; exact Bool.false_ne_true)]
    exact ih fun m hm => h0 (m + 1) (Nat.succ_lt_succ hm)
theorem lend_len {q : Bytes → Bool} (x : Bytes) : (Bfs.lend q x).length ≤ x.length := (Bfs.lend_suffix x).length_le
section
variable {P : Program} {w : World} {K : PySem.W.Frag} {mg : Str → Option Value} {base : Heap} {ad : Ad}
theorem sc_is_used : FnScope N_is_used P_is_used (defScope s_is_used) := ⟨rfl, rfl, rfl, by decide +kernel, rfl, by decide +kernel, by decide +kernel⟩
def sp_is_used : Sp := fun vs H Q _ => ∃ (c : UInt8) (q : PySem.Addr) (hs : List Bytes), vs = [vb c, .ref q] ∧ LinesL H q hs ∧ Q (.bl (hs.any fun w => w.contains c)) H
theorem ok_is_used (T : Txt K mg ad) : OkD P w K mg base CX0 1 "is_used" P_is_used sp_is_used := by
  obtain ⟨f, fd, hm, F, hb⟩ := T.d_is_used
  refine ⟨f, fd, hm, F.kp, hb, F.ok sc_is_used (fun vs H Q E h => ?_) (fun cdv A outer s H vs Q E hr h => ⟨_, (pss_cons (ps_for PassesOwn.never rfl (pi_list (pv 1)) (pg_name (i := 2) sc_is_used.nd rfl (Or.inl rfl))
     (pss_one (ps_if (pt_cmpR op_in_seq (pv 0) (pv 2) (by rfl))
     (pss_one (ps_ret pe_bl))
     pss_nil)))
     (pss_one (ps_ret pe_bl))), ?_⟩)⟩
  · obtain ⟨c, q, hs, rfl, _⟩ := h
    rfl
  · obtain ⟨c, q, hs, rfl, ⟨as, hL, rL⟩, k⟩ := h
    have las := rL.length
    refine ⟨_, rfl, q, rfl, ⟨_, SqL.of hL⟩, for_list (K := K) (a := q) (xs := as.map V.ref) (fun i σ H' => H' = H ∧ (∃ v, σ = [some (vb c), some (.ref q), v]) ∧ ∀ w ∈ hs.take i, w.contains c = false) ⟨rfl, ⟨none, rfl⟩, fun w hw => by simp at hw⟩ (fun i σ H' _ ⟨e, _⟩ => by rw [e]; exact SqL.of hL) ?_ ?_⟩
    · rintro i v σ H' hi ⟨rfl, ⟨v1, rfl⟩, inv⟩
      obtain ⟨p, hp, rfl⟩ := map_ref_at hi
      obtain ⟨x, hx, ex⟩ := paired_get rL hp
      refine ⟨_, rfl, _, rfl, p, _, rfl, SqTo ex, rfl, vl_flat x, _, rfl, ?_⟩
      show if inV (vb c) (vl x) = true then _ else _
      rw [inV_vl]
      refine ifB (fun e => ?_) (fun e => ?_)
      · have : (hs.any fun w => w.contains c) = true := List.any_eq_true.mpr ⟨x, List.mem_of_getElem? hx, e⟩
        rw [this] at k
        exact k
      · refine ⟨rfl, ⟨_, rfl⟩, fun w hw => ?_⟩
        rw [take_snoc hx, List.mem_append, List.mem_singleton] at hw
        rcases hw with h | h
        · exact inv w h
        · rw [h]; exact e
    · rintro σ H' ⟨rfl, ⟨v1, rfl⟩, inv⟩
      rw [List.length_map, las, List.take_length] at inv
      have : (hs.any fun w => w.contains c) = false := List.any_eq_false.mpr fun w hw => by rw [inv w hw]; exact Bool.false_ne_true
      rw [this] at k
      exact k
theorem sc_free_letter : FnScope N_free_letter P_free_letter (defScope s_free_letter) := ⟨rfl, rfl, rfl, by decide +kernel, rfl, by decide +kernel, by decide +kernel⟩
def sp_free_letter : Sp := fun vs H Q _ => ∃ (q : PySem.Addr) (hs : List Bytes), vs = [.ref q] ∧ LinesL H q hs ∧ (hs.map fun w => w.length).sum ≤ 16 ∧ ∀ H', Same H H' → Q (vb (Vasedb.freeLetter hs)) H'
theorem ok_free_letter (T : Txt K mg ad) : OkD P w K mg base CX0 2 "free_letter" P_free_letter sp_free_letter := by
  obtain ⟨f, fd, hm, F, hb⟩ := T.d_free_letter
  have G_is_used : OkD P w K mg base CX0 1 "is_used" P_is_used sp_is_used := ok_is_used T
  refine ⟨f, fd, hm, F.kp, hb, F.ok sc_free_letter (fun vs H Q E h => ?_) (fun cdv A outer s H vs Q E hr h => ⟨_, (pss_cons (ps_setLc (i := 1) (own := [("letter", 2)]) (g := gName 2) rfl sc_free_letter.nd rfl rfl (sw_true rfl rfl rfl (by decide +kernel)) (pi_range2 rfl T.n_range (pa_cons pe_int (pa_cons pe_int pa_nil))) (blkOk_by (own := [("letter", 2)]) (N := N_free_letter) (sc := defScope s_free_letter) (by decide +kernel)) (fun _ _ _ _ _ => pg_name (i := 2) sc_free_letter.nd rfl (Or.inl rfl)) (fun _ _ _ _ _ => (pts_one (pt_not (pt_val (pe_callD (G_is_used) (hr.mono (by decide)) pass0 (pa_cons (pv 2) (pa_cons (pv 0) pa_nil))))))) (fun _ _ _ _ _ => (pv 2)))
     (pss_one (ps_ret (pe_ix ix_list (pv 1) pe_int (fun _ _ => rfl))))), ?_⟩)⟩
  · obtain ⟨q, hs, rfl, _⟩ := h
    rfl
  · obtain ⟨q, hs, rfl, hL, h16, k⟩ := h
    obtain ⟨l1, l2, ea, ef, el⟩ := Bfs.free_some h16
    refine ⟨97, 123, rfl, by decide, fun D nD => ?_⟩
    have s0 : Same H (upd H D (.lst [])) := Same.new nD
    refine lc_range (fun i H' => Same H H' ∧ H' D = some (.lst (vl ((Vasedb.alphabet.take i).filter fun c => !hs.any fun w => w.contains c)))) ⟨s0, upd_same⟩ ?_ ?_
    · rintro i H' hi ⟨s1, hD⟩
      have hi' : i < 26 := hi
      obtain ⟨c, hc, ec⟩ := alpha_at hi'
      rw [ec]
      refine ⟨rfl, _, rfl, _, rfl, c, q, hs, rfl, hL.same s1, ?_⟩
      refine ⟨_, rfl, ?_⟩
      have hf : ∀ (p : UInt8 → Bool), (Vasedb.alphabet.take (i + 1)).filter p = (Vasedb.alphabet.take i).filter p ++ (if p c = true then [c] else []) := fun p => by
        rw [take_snoc hc, List.filter_append, List.filter_cons, List.filter_nil]
      refine ifB (fun e => ?_) (fun e => ?_)
      · refine ⟨_, rfl, _, hD, ?_, Same.mut s1 nD, upd_same.trans ?_⟩
        · rw [vl_length]
          exact smallL (Nat.lt_of_le_of_lt (List.length_filter_le _ _) (by rw [List.length_take]; omega))
        · rw [hf, if_pos e]
          unfold vl
          rw [List.map_append]
          rfl
      · refine ⟨s1, hD.trans ?_⟩
        rw [hf, if_neg (by rw [e]; exact Bool.false_ne_true), List.append_nil]
    · rintro H' ⟨s1, hD⟩
      have e : (Vasedb.alphabet.take 26).filter (fun c => !hs.any fun w => w.contains c) = Vasedb.freeLetter hs :: l2.filter (fun c => !hs.any fun w => w.contains c) := by
        rw [List.take_of_length_le (by rw [Bfs.alphabet_length]; exact Nat.le_refl _), ea, List.filter_append, List.filter_cons, ef]
        rw [List.filter_eq_nil_iff.mpr fun c hc => by rw [el c hc]; decide]
        rfl
      replace hD : H' D = some (.lst (vl (Vasedb.freeLetter hs :: l2.filter (fun c => !hs.any fun w => w.contains c)))) := by rw [← e]; exact hD
      exact ⟨_, rfl, D, _, 0, vb (Vasedb.freeLetter hs), rfl, rfl, SqL.of hD, show atI _ ((0 : Nat) : Int) = _ from atI_nat rfl, k H' s1⟩
theorem sc_begins_one : FnScope N_begins_one P_begins_one (defScope s_begins_one) := ⟨rfl, rfl, rfl, by decide +kernel, rfl, by decide +kernel, by decide +kernel⟩
def sp_begins_one : Sp := fun vs H Q _ => ∃ (a q : PySem.Addr) (x : Bytes) (hs : List Bytes), vs = [.ref a, .ref q] ∧ H a = some (.tup (vl x)) ∧ x.length ≤ 64 ∧ LinesL H q hs ∧ ∀ H', Same H H' → Q (.bl (Bfs.qP hs x)) H'
theorem ok_begins_one (T : Txt K mg ad) : OkD P w K mg base CX0 1 "begins_one" P_begins_one sp_begins_one := by
  obtain ⟨f, fd, hm, F, hb⟩ := T.d_begins_one
  refine ⟨f, fd, hm, F.kp, hb, F.ok sc_begins_one (fun vs H Q E h => ?_) (fun cdv A outer s H vs Q E hr h => ⟨_, (pss_cons (ps_for PassesOwn.never rfl (pi_list (pv 1)) (pg_name (i := 2) sc_begins_one.nd rfl (Or.inl rfl))
     (pss_one (ps_if (pt_cmpR (op_eqD hr.units) (pe_slice sl_tupB (pv 2) po_none (po_some (pe_callB call_len_seq (by rfl) T.n_len PySem.boot_len (pa_cons (pv 0) pa_nil)))) (pv 0) (nomark _))
     (pss_one (ps_ret pe_bl))
     pss_nil)))
     (pss_one (ps_ret pe_bl))), ?_⟩)⟩
  · obtain ⟨a, q, x, hs, rfl, _⟩ := h
    rfl
  · obtain ⟨a, q, x, hs, rfl, hx, lx, ⟨as, hL, rL⟩, k⟩ := h
    have las := rL.length
    refine ⟨_, rfl, q, rfl, ⟨_, SqL.of hL⟩, for_list (K := K) (a := q) (xs := as.map V.ref) (fun i σ H' => Same H H' ∧ (∃ v, σ = [some (.ref a), some (.ref q), v]) ∧ ∀ w ∈ hs.take i, Vaseda.begins x w = false) ⟨Same.refl H, ⟨none, rfl⟩, fun w hw => by simp at hw⟩ (fun i σ H' _ ⟨s1, _⟩ => SqL.of (s1 _ _ hL)) ?_ ?_⟩
    · rintro i v σ H' hi ⟨s1, ⟨v1, rfl⟩, inv⟩
      obtain ⟨p, hp, rfl⟩ := map_ref_at hi
      obtain ⟨y, hy, ey⟩ := paired_get rL hp
      refine ⟨_, rfl, _, rfl, a, _, rfl, SqTo (s1 _ _ hx), _, rfl, p, _, rfl, s1 _ _ ey, fun l H2 s2 hl => ?_⟩
      rw [vl_length, cut_to, show (vl y).take x.length = vl (y.take x.length) from List.map_take.symm] at hl
      refine ⟨_, rfl, _, _, dp_line hl, dp_line (s2 _ _ (s1 _ _ hx)), dl_sh _, dl_sh _, _, rfl, ?_⟩
      rw [dl_eqv]
      have hb : Vaseda.begins x y = decide (y.take x.length = x) := by
        unfold Vaseda.begins
        rw [Bool.eq_iff_iff, beq_iff_eq, decide_eq_true_iff]
      rw [← hb]
      refine ifB (fun e => ?_) (fun e => ?_)
      · have : Bfs.qP hs x = true := List.any_eq_true.mpr ⟨y, List.mem_of_getElem? hy, e⟩
        have q := k _ (s1.trans s2)
        rw [this] at q
        exact q
      · refine ⟨s1.trans s2, ⟨_, rfl⟩, fun w hw => ?_⟩
        rw [take_snoc hy, List.mem_append, List.mem_singleton] at hw
        rcases hw with h | h
        · exact inv w h
        · rw [h]; exact e
    · rintro σ H' ⟨s1, ⟨v1, rfl⟩, inv⟩
      rw [List.length_map, las, List.take_length] at inv
      have : Bfs.qP hs x = false := List.any_eq_false.mpr fun w hw => by rw [inv w hw]; exact Bool.false_ne_true
      have q := k _ s1
      rw [this] at q
      exact q
theorem sc_longest_end : FnScope N_longest_end P_longest_end (defScope s_longest_end) := ⟨rfl, rfl, rfl, by decide +kernel, rfl, by decide +kernel, by decide +kernel⟩
def sp_longest_end : Sp := fun vs H Q _ => ∃ (q a : PySem.Addr) (hs : List Bytes) (x : Bytes), vs = [.ref q, .ref a] ∧ LinesL H q hs ∧ H a = some (.tup (vl x)) ∧ x.length ≤ 64 ∧ ∀ H' p, Same H H' → H' p = some (.tup (vl (Bfs.lend (Bfs.qP hs) x))) → Q (.ref p) H'
theorem ok_longest_end (T : Txt K mg ad) : OkD P w K mg base CX0 2 "longest_end" P_longest_end sp_longest_end := by
  obtain ⟨f, fd, hm, F, hb⟩ := T.d_longest_end
  have G_begins_one : OkD P w K mg base CX0 1 "begins_one" P_begins_one sp_begins_one := ok_begins_one T
  refine ⟨f, fd, hm, F.kp, hb, F.ok sc_longest_end (fun vs H Q E h => ?_) (fun cdv A outer s H vs Q E hr h => ⟨_, (pss_cons (ps_for PassesOwn.never rfl (pi_range1 rfl T.n_range (pa_cons (pe_callB call_len_seq (by rfl) T.n_len PySem.boot_len (pa_cons (pv 1) pa_nil)) pa_nil)) (pg_name (i := 2) sc_longest_end.nd rfl (Or.inl rfl))
     (pss_one (ps_if (pt_val (pe_callD (G_begins_one) (hr.mono (by decide)) pass0 (pa_cons (pe_slice sl_tupB (pv 1) (po_some (pv 2)) po_none) (pa_cons (pv 0) pa_nil))))
     (pss_one (ps_ret (pe_slice sl_tupB (pv 1) (po_some (pv 2)) po_none)))
     pss_nil)))
     (pss_one (ps_ret (pe_tup pa_nil)))), ?_⟩)⟩
  · obtain ⟨q, a, hs, x, rfl, _⟩ := h
    rfl
  · obtain ⟨q, a, hs, x, rfl, hL, hx, lx, k⟩ := h
    refine ⟨_, rfl, a, _, rfl, SqTo hx, _, rfl, (r62 (by rw [vl_length]; omega)).1, (r62 (by rw [vl_length]; omega)).2, for_range (fun i σ H' => Same H H' ∧ (∃ v, σ = [some (.ref q), some (.ref a), v]) ∧ ∀ m, m < i → Bfs.qP hs (x.drop m) = false) ⟨Same.refl H, ⟨_, rfl⟩, fun m hm => absurd hm (Nat.not_lt_zero _)⟩ ?_ ?_⟩
    · rintro i σ H' hi ⟨s1, ⟨v1, rfl⟩, inv⟩
      have hi' : i < x.length := by rw [vl_length] at hi; omega
      rw [Int.zero_add]
      refine ⟨_, rfl, _, rfl, _, rfl, a, _, rfl, s1 _ _ hx, fun p H2 s2 hp => ?_⟩
      rw [cut_from, show (vl x).drop i = vl (x.drop i) from List.map_drop.symm] at hp
      refine ⟨_, rfl, p, q, x.drop i, hs, rfl, hp, by rw [List.length_drop]; omega, (hL.same s1).same s2, fun H3 s3 => ⟨_, rfl, ?_⟩⟩
      refine ifB (fun e => ?_) (fun e => ?_)
      · refine ⟨_, rfl, _, rfl, _, rfl, a, _, rfl, s3 _ _ (s2 _ _ (s1 _ _ hx)), fun p2 H4 s4 hp2 => ?_⟩
        rw [cut_from, show (vl x).drop i = vl (x.drop i) from List.map_drop.symm, ← lend_at hi' inv e] at hp2
        exact k H4 p2 (((s1.trans s2).trans s3).trans s4) hp2
      · refine ⟨(s1.trans s2).trans s3, ⟨_, rfl⟩, fun m hm => ?_⟩
        by_cases c : m < i
        · exact inv m c
        · rw [show m = i from by omega]
          exact e
    · rintro σ H' ⟨s1, ⟨v1, rfl⟩, inv⟩
      refine ⟨by show 0 ≤ sizeLine; decide, fun p hp => ?_⟩
      have e := lend_none (q := Bfs.qP hs) (x := x) fun m hm => inv m (by rw [vl_length]; omega)
      rw [e] at k
      exact k _ p (s1.trans (Same.new hp)) upd_same
/-! ### states -/
def bls (m : List Bool) : List V := m.map V.bl
theorem sc_words_had : FnScope N_words_had P_words_had (defScope s_words_had) := ⟨rfl, rfl, rfl, by decide +kernel, rfl, by decide +kernel, by decide +kernel⟩
def sp_words_had : Sp := fun vs H Q _ => ∃ (q a : PySem.Addr) (hs : List Bytes) (x : Bytes), vs = [.ref q, .ref a] ∧ LinesL H q hs ∧ hs.length ≤ 64 ∧ (∀ w ∈ hs, w.length ≤ 64) ∧ H a = some (.tup (vl x)) ∧ x.length ≤ 64 ∧ ∀ H' p, Same H H' → H' p = some (.tup (bls (Vasedb.mask hs x))) → Q (.ref p) H'
theorem ok_words_had (T : Txt K mg ad) : OkD P w K mg base CX0 2 "words_had" P_words_had sp_words_had := by
  obtain ⟨f, fd, hm, F, hb⟩ := T.d_words_had
  have G_stands : OkD P w K mg base CX0 1 "stands" P_stands sp_stands := ok_stands T
  refine ⟨f, fd, hm, F.kp, hb, F.ok sc_words_had (fun vs H Q E h => ?_) (fun cdv A outer s H vs Q E hr h => ⟨_, (pss_one (ps_ret (pe_callTy call_tuple_of (by rfl) T.n_tuple (by decide +kernel) (pa_cons (pe_lc (own := [("word", 2)]) (g := gName 2) rfl sc_words_had.nd (pi_list (pv 0)) (blkOk_by (own := [("word", 2)]) (N := N_words_had) (sc := defScope s_words_had) (by decide +kernel)) (fun _ _ _ _ _ => pg_name (i := 2) sc_words_had.nd rfl (Or.inl rfl)) (fun _ _ _ _ _ => pts_nil) (fun _ _ _ _ _ => (pe_callD (G_stands) (hr.mono (by decide)) pass0 (pa_cons (pv 2) (pa_cons (pv 1) pa_nil))))) pa_nil)))), ?_⟩)⟩
  · obtain ⟨q, a, hs, x, rfl, _⟩ := h
    rfl
  · obtain ⟨q, a, hs, x, rfl, ⟨as, hL, rL⟩, l64, w64, hx, lx, k⟩ := h
    have las := rL.length
    refine ⟨_, rfl, q, rfl, ⟨_, SqL.of hL⟩, fun D nD => ?_⟩
    have s0 : Same H (upd H D (.lst [])) := Same.new nD
    refine lc_list (K := K) (a := q) (xs := as.map V.ref) (fun i H' => Same H H' ∧ H' D = some (.lst (bls (Vasedb.mask (hs.take i) x)))) ⟨s0, upd_same⟩ (fun i H' _ ⟨s1, _⟩ => SqL.of (s1 _ _ hL)) ?_ ?_
    · rintro i v H' hi ⟨s1, hD⟩
      obtain ⟨p, hp, rfl⟩ := map_ref_at hi
      obtain ⟨y, hy, ey⟩ := paired_get rL hp
      refine ⟨rfl, _, rfl, _, rfl, p, a, y, x, rfl, s1 _ _ ey, w64 y (List.mem_of_getElem? hy), s1 _ _ hx, lx, fun H2 s2 => ?_⟩
      have i64 : i < 64 := by have := (List.getElem?_eq_some_iff.mp hy).1; omega
      refine ⟨_, s2 _ _ hD, ?_, Same.mut (s1.trans s2) nD, upd_same.trans ?_⟩
      · unfold bls Vasedb.mask
        rw [List.length_map, List.length_map, List.length_take]
        exact smallL (by omega)
      · rw [take_snoc hy]
        unfold bls Vasedb.mask
        rw [List.map_append, List.map_append]
        rfl
    · rintro H' ⟨s1, hD⟩
      rw [List.length_map, las, List.take_length] at hD
      refine ⟨D, _, rfl, .inl ⟨SqL.of hD, fun l hl => ?_⟩⟩
      exact k _ l (s1.trans (Same.new hl)) upd_same
end
end Lw

/-! kinds: a search by levels -/
namespace Lw
open PySem PySem.Spec PyProof.Rows L2
open VasedBase (Bytes PTok Toks)
open Vaseda (Deed Cmd Script Line)

/-! ### plain -/
theorem of_nd {p : Prop} {i : Decidable p} (h : (!decide p) = false) : p := by
  by_cases z : p
  · exact z
  · rw [decide_eq_false z] at h
    cases h
theorem firsts_snoc {f : Bytes → List Bool × Bytes} (S : List (List Bool × Bytes)) (l : List Bytes) (y : Bytes) : Bfs.firsts f S (l ++ [y]) = if f y ∈ S ++ l.map f then Bfs.firsts f S l else Bfs.firsts f S l ++ [y] := by
  rw [Bfs.firsts_append]
  by_cases c : f y ∈ S ++ l.map f
  · rw [if_pos c, Bfs.firsts, if_pos c, Bfs.firsts, List.append_nil]
  · rw [if_neg c, Bfs.firsts, if_neg c, Bfs.firsts]
theorem firsts_snocM {f : Bytes → List Bool} (S : List (List Bool)) (l : List Bytes) (y : Bytes) : Bfs.firsts f S (l ++ [y]) = if f y ∈ S ++ l.map f then Bfs.firsts f S l else Bfs.firsts f S l ++ [y] := by
  rw [Bfs.firsts_append]
  by_cases c : f y ∈ S ++ l.map f
  · rw [if_pos c, Bfs.firsts, if_pos c, Bfs.firsts, List.append_nil]
  · rw [if_neg c, Bfs.firsts, if_neg c, Bfs.firsts]
theorem firsts_len {κ : Type} [DecidableEq κ] {f : Bytes → κ} : ∀ (l : List Bytes) (S : List κ), (Bfs.firsts f S l).length ≤ l.length
  | [], _ => Nat.le_refl _
  | x :: r, S => by
    rw [Bfs.firsts]
    split
    · exact Nat.le_succ_of_le (firsts_len r S)
    · exact Nat.succ_le_succ (firsts_len r _)
theorem flat_ext_len (A : List UInt8) : ∀ l : List Bytes, (l.flatMap (Bfs.ext A)).length = l.length * A.length
  | [] => by simp
  | x :: r => by
    rw [List.flatMap_cons, List.length_append, flat_ext_len A r, List.length_cons, Nat.succ_mul]
    unfold Bfs.ext
    rw [List.length_map]
    omega
theorem pl_short {f : Bytes → List Bool × Bytes} {A : List UInt8} : ∀ n, (∀ x ∈ (Bfs.pl f A n).1, x.length ≤ n) ∧ (∀ x ∈ (Bfs.pl f A n).2, x.length ≤ n)
  | 0 => by
    have e : ∀ x ∈ ([[]] : List Bytes), x.length ≤ 0 := fun x hx => by
      rw [List.mem_singleton] at hx
      rw [hx]
      exact Nat.le_refl _
    exact ⟨e, e⟩
  | n + 1 => by
    obtain ⟨h1, h2⟩ := pl_short (f := f) (A := A) n
    have e : ∀ x ∈ Bfs.firsts f ((Bfs.pl f A n).1.map f) ((Bfs.pl f A n).2.flatMap (Bfs.ext A)), x.length ≤ n + 1 := fun x hx => by
      obtain ⟨hx, _⟩ := Bfs.firsts_sub _ _ _ hx
      obtain ⟨y, hy, hx⟩ := List.mem_flatMap.mp hx
      obtain ⟨c, _, rfl⟩ := List.mem_map.mp hx
      rw [List.length_append]
      exact Nat.succ_le_succ (h2 y hy)
    refine ⟨fun x hx => ?_, e⟩
    rcases List.mem_append.mp (show x ∈ (Bfs.pl f A n).1 ++ Bfs.firsts f ((Bfs.pl f A n).1.map f) ((Bfs.pl f A n).2.flatMap (Bfs.ext A)) from hx) with h | h
    · exact Nat.le_succ_of_le (h1 x h)
    · exact e x h
/-! ### keys -/
def maskK (m : List Bool) : NK := .tup (m.map boolK)
def stateK (k : List Bool × Bytes) : NK := .tup [maskK k.1, lineK k.2]
theorem maskK_all {H : Hp} : ∀ m : List Bool, NKAll H (m.map boolK) (bls m)
  | [] => .nil
  | b :: m => .cons (.bl b) (maskK_all m)
theorem maskK_at {H : Hp} {p : PySem.Addr} {m : List Bool} (h : H p = some (.tup (bls m))) : NKAt H (maskK m) (.ref p) := .tup h (maskK_all m)
theorem boolsK_inj : ∀ {a b : List Bool}, a.map boolK = b.map boolK → a = b
  | [], [], _ => rfl
  | [], _ :: _, h => by cases h
  | _ :: _, [], h => by cases h
  | x :: a, y :: b, h => by
    have h' := List.cons.inj (show boolK x :: a.map boolK = boolK y :: b.map boolK from h)
    rw [boolK_inj h'.1, boolsK_inj h'.2]
theorem maskK_inj {a b : List Bool} (h : maskK a = maskK b) : a = b := boolsK_inj (NestedKey.tup.inj h)
theorem stateK_inj {a b : List Bool × Bytes} (h : stateK a = stateK b) : a = b := by
  have h1 := List.cons.inj (NestedKey.tup.inj h)
  have h2 := List.cons.inj h1.2
  exact Prod.ext (maskK_inj h1.1) (lineK_inj h2.1)
theorem boolsK_depth : ∀ x : List Bool, NestedKey.depthAll (x.map boolK) = 0
  | [] => rfl
  | c :: x => by
    show NestedKey.depthAll (boolK c :: x.map boolK) = 0
    rw [NestedKey.depthAll, boolsK_depth x]
    rfl
theorem maskK_depth (x : List Bool) : (maskK x).depth = 1 := by
  unfold maskK
  rw [NestedKey.depth, boolsK_depth]
theorem maskK_depth8 (x : List Bool) : (maskK x).depth ≤ 8 := by rw [maskK_depth]; decide
theorem stateK_depth (k : List Bool × Bytes) : (stateK k).depth ≤ 8 := by
  unfold stateK
  simp only [NestedKey.depth, NestedKey.depthAll, lineK_depth, maskK_depth]
  decide
/-! ### sets -/
def SetAt {κ : Type} [DecidableEq κ] (P : Program) (w : World) (enc : κ → NK) (H : Hp) (d : PySem.Addr) (S : List κ) (n : Nat) : Prop := ∃ kvs, DN P w H d kvs ∧ kvs.length ≤ n ∧ ∀ k, (valV kvs (enc k)).isSome = decide (k ∈ S)
section
variable {κ : Type} [DecidableEq κ] {P : Program} {w : World} {enc : κ → NK} {H H' : Hp} {d e : PySem.Addr} {S : List κ} {n : Nat}
theorem SetAt.same (s : Same H H') (h : SetAt P w enc H d S n) : SetAt P w enc H' d S n := let ⟨kvs, D, a, b⟩ := h; ⟨kvs, D.same s, a, b⟩
theorem SetAt.but (h : SetAt P w enc H d S n) (A : Apart H e) (b : But e H H') (ne : d ≠ e) : SetAt P w enc H' d S n := let ⟨kvs, D, x, y⟩ := h; ⟨kvs, D.but A b ne, x, y⟩
theorem SetAt.apart (h : SetAt P w enc H d S n) : Apart H d := let ⟨_, D, _⟩ := h; D.apart
theorem SetAt.ext (h : SetAt P w enc H d S n) : ∃ φ, H d = some (.ext φ) := let ⟨_, D, _⟩ := h; let ⟨_, x, _⟩ := D.ex; ⟨_, x⟩
theorem SetAt.live (h : SetAt P w enc H d S n) {l : PySem.Addr} (nl : H l = none) : d ≠ l := let ⟨_, x⟩ := h.ext; ne_of_none x nl
theorem SetAt.mono {m : Nat} (z : n ≤ m) (h : SetAt P w enc H d S n) : SetAt P w enc H d S m := let ⟨kvs, D, x, y⟩ := h; ⟨kvs, D, Nat.le_trans x z, y⟩
theorem set_new (D : DN P w H d []) : SetAt P w enc H d [] 0 := ⟨[], D, Nat.le_refl _, fun k => rfl⟩
theorem set_put (inj : ∀ a b, enc a = enc b → a = b) {kvs : List (NK × V)} {k : κ} {v : V} (lk : kvs.length ≤ n) (hk : ∀ k, (valV kvs (enc k)).isSome = decide (k ∈ S)) (D : DN P w H' d (putK kvs (enc k) v)) : SetAt P w enc H' d (S ++ [k]) (n + 1) := by
  refine ⟨_, D, Nat.le_trans (length_putK _ _ _) (by omega), fun j => ?_⟩
  rw [valV_put]
  by_cases z : enc j = enc k
  · rw [if_pos z, inj _ _ z]
    simp
  · rw [if_neg z, hk]
    have : j ≠ k := fun q => z (by rw [q])
    simp [this]
theorem set_iff {T : List κ} (h : SetAt P w enc H d S n) (e : ∀ k, k ∈ S ↔ k ∈ T) : SetAt P w enc H d T n := let ⟨kvs, D, x, y⟩ := h; ⟨kvs, D, x, fun k => (y k).trans (decide_eq_decide.mpr (e k))⟩
end
/-- the words looked for -/
structure WordsOk (hs : List Bytes) : Prop where
  few : hs.length ≤ 4
  sum : (hs.map fun w => w.length).sum ≤ 16
theorem le_sum : ∀ {l : List Bytes} {w : Bytes}, w ∈ l → w.length ≤ (l.map fun w => w.length).sum
  | a :: r, w, h => by
    rw [List.map_cons, List.sum_cons]
    rcases List.mem_cons.mp h with rfl | h
    · exact Nat.le_add_right _ _
    · exact Nat.le_trans (le_sum h) (Nat.le_add_left _ _)
theorem WordsOk.short {hs : List Bytes} (h : WordsOk hs) : ∀ w ∈ hs, w.length ≤ 64 := fun w hw => Nat.le_trans (le_sum hw) (Nat.le_trans h.sum (by decide))
section
variable {P : Program} {w : World} {K : PySem.W.Frag} {mg : Str → Option Value} {base : Heap} {ad : Ad}
/-- a state -/
def StateAt (H : Hp) (p : PySem.Addr) (k : List Bool × Bytes) : Prop := NKAt H (stateK k) (.ref p)
theorem sc_state_of : FnScope N_state_of P_state_of (defScope s_state_of) := ⟨rfl, rfl, rfl, by decide +kernel, rfl, by decide +kernel, by decide +kernel⟩
def sp_state_of : Sp := fun vs H Q _ => ∃ (q a : PySem.Addr) (hs : List Bytes) (x : Bytes), vs = [.ref q, .ref a] ∧ LinesL H q hs ∧ WordsOk hs ∧ H a = some (.tup (vl x)) ∧ x.length ≤ 64 ∧ ∀ H' p, Same H H' → StateAt H' p (Bfs.pKey hs x) → Q (.ref p) H'
theorem ok_state_of (T : Txt K mg ad) : OkD P w K mg base CX0 3 "state_of" P_state_of sp_state_of := by
  obtain ⟨f, fd, hm, F, hb⟩ := T.d_state_of
  have G_words_had : OkD P w K mg base CX0 2 "words_had" P_words_had sp_words_had := ok_words_had T
  have G_longest_end : OkD P w K mg base CX0 2 "longest_end" P_longest_end sp_longest_end := ok_longest_end T
  refine ⟨f, fd, hm, F.kp, hb, F.ok sc_state_of (fun vs H Q E h => ?_) (fun cdv A outer s H vs Q E hr h => ⟨_, (pss_one (ps_ret (pe_tup (pa_cons (pe_callD (G_words_had) (hr.mono (by decide)) pass0 (pa_cons (pv 0) (pa_cons (pv 1) pa_nil))) (pa_cons (pe_callD (G_longest_end) (hr.mono (by decide)) pass0 (pa_cons (pv 0) (pa_cons (pv 1) pa_nil))) pa_nil))))), ?_⟩)⟩
  · obtain ⟨q, a, hs, x, rfl, _⟩ := h
    rfl
  · obtain ⟨q, a, hs, x, rfl, hL, ok, hx, lx, k⟩ := h
    refine ⟨_, rfl, _, rfl, q, a, hs, x, rfl, hL, by have := ok.few; omega, ok.short, hx, lx, fun H1 p1 s1 h1 => ?_⟩
    refine ⟨_, rfl, _, rfl, q, a, hs, x, rfl, hL.same s1, s1 _ _ hx, lx, fun H2 p2 s2 h2 => ⟨by show 2 ≤ sizeLine; decide, fun p hp => ?_⟩⟩
    have s3 := Same.new (o := .tup [.ref p1, .ref p2]) hp
    exact k _ p ((s1.trans s2).trans s3) (.tup upd_same (.cons (maskK_at (s3 _ _ (s2 _ _ h1))) (.cons (lineK_at (s3 _ _ h2)) .nil)))
theorem sc_longer_lines : FnScope N_longer_lines P_longer_lines (defScope s_longer_lines) := ⟨rfl, rfl, rfl, by decide +kernel, rfl, by decide +kernel, by decide +kernel⟩
def sp_longer_lines (P : Program) (w : World) : Sp := fun vs H Q _ => ∃ (q l d : PySem.Addr) (hs ls : List Bytes) (S : List (List Bool × Bytes)) (n : Nat), vs = [.ref q, .ref l, .ref d] ∧ LinesL H q hs ∧ WordsOk hs ∧ LinesL H l ls ∧ ls.length ≤ 400 ∧ (∀ x ∈ ls, x.length ≤ 40) ∧ SetAt P w stateK H d S n ∧ n ≤ 1000000 ∧
  ∀ H' p, But d H H' → H p = none → SetAt P w stateK H' d (S ++ (ls.flatMap (Bfs.ext Vasedb.alphabet)).map (Bfs.pKey hs)) (n + 10400) → LinesL H' p (Bfs.firsts (Bfs.pKey hs) S (ls.flatMap (Bfs.ext Vasedb.alphabet))) → Q (.ref p) H'
theorem ok_longer_lines (T : Txt K mg ad) : OkD P w K mg base CX0 4 "longer_lines" P_longer_lines (sp_longer_lines P w) := by
  obtain ⟨f, fd, hm, F, hb⟩ := T.d_longer_lines
  have G_state_of : OkD P w K mg base CX0 3 "state_of" P_state_of sp_state_of := ok_state_of T
  refine ⟨f, fd, hm, F.kp, hb, F.ok sc_longer_lines (fun vs H Q E h => ?_) (fun cdv A outer s H vs Q E hr h => ⟨_, (pss_cons (ps_set (i := 3) sc_longer_lines.nd rfl (Or.inl rfl) (pe_lst pa_nil))
     (pss_cons (ps_for PassesOwn.never rfl (pi_list (pv 1)) (pg_name (i := 4) sc_longer_lines.nd rfl (Or.inl rfl))
     (pss_one (ps_for PassesOwn.never rfl (pi_range2 rfl T.n_range (pa_cons pe_int (pa_cons pe_int pa_nil))) (pg_name (i := 5) sc_longer_lines.nd rfl (Or.inl rfl))
     (pss_cons (ps_set (i := 6) sc_longer_lines.nd rfl (Or.inl rfl) (pe_op op_catB (pv 4) (pe_tup (pa_cons (pv 5) pa_nil))))
     (pss_cons (ps_set (i := 7) sc_longer_lines.nd rfl (Or.inl rfl) (pe_callD (G_state_of) (hr.mono (by decide)) pass0 (pa_cons (pv 0) (pa_cons (pv 6) pa_nil))))
     (pss_one (ps_if (pt_cmp (pc_nnotin hr.units (pv 7) (pv 2)))
     (pss_cons (ps_nput hr.units (pv 2) (pv 7) pe_bl rfl)
     (pss_one (ps_expr (pe_bm PySem.F.plainAttrs_list PySem.F.slot_list_append PySem.F.type_list_append mt_append (pv 3) (pa_cons (pv 6) pa_nil)))))
     pss_nil)))))))
     (pss_one (ps_ret (pv 3))))), ?_⟩)⟩
  · obtain ⟨q, l, d, hs, ls, S, n, rfl, _⟩ := h
    rfl
  · obtain ⟨q, l, d, hs, ls, S, n, rfl, hq, ok, hl, l400, l40, hS, hn, k⟩ := h
    obtain ⟨as, hL, rL⟩ := id hl
    have las := rL.length
    have nqd := lines_ne hq hS.ext
    have nld := lines_ne hl hS.ext
    refine ⟨by show 0 ≤ sizeLine; decide, fun o no => ?_⟩
    have ndo := hS.live no
    have s0 : Same H (upd H o (.lst [])) := Same.new no
    have Ad0 := hS.apart
    have At0 : ∃ At : Hp → List Bytes → Prop, At = fun H' M => But d H H' ∧ SetAt P w stateK H' d (S ++ M.map (Bfs.pKey hs)) (n + M.length) ∧ LinesL H' o (Bfs.firsts (Bfs.pKey hs) S M) := ⟨_, rfl⟩
    obtain ⟨At, hAt⟩ := At0
    have mkA : ∀ H' M, But d H H' → SetAt P w stateK H' d (S ++ M.map (Bfs.pKey hs)) (n + M.length) → LinesL H' o (Bfs.firsts (Bfs.pKey hs) S M) → At H' M := fun _ _ a b c => by rw [hAt]; exact ⟨a, b, c⟩
    have at0 : At (upd H o (.lst [])) [] := by
      rw [hAt]
      refine ⟨But.of s0, ?_, [], upd_same, .nil⟩
      rw [List.map_nil, List.append_nil]
      exact hS.same s0
    refine ⟨_, rfl, l, rfl, ⟨_, SqL.of (s0 _ _ hL)⟩, for_list (K := K) (a := l) (xs := as.map V.ref) (fun i σ H' => ∃ v1 v2 v3 v4, σ = [some (.ref q), some (.ref l), some (.ref d), some (.ref o), v1, v2, v3, v4] ∧ At H' ((ls.take i).flatMap (Bfs.ext Vasedb.alphabet)))
      ⟨none, none, none, none, rfl, at0⟩ (fun i σ H' _ ⟨_, _, _, _, _, z⟩ => by rw [hAt] at z; exact SqL.of (z.1 _ _ nld hL)) ?_ ?_⟩
    · rintro i v σ H' hi ⟨v1, v2, v3, v4, rfl, hA⟩
      obtain ⟨p, hp, rfl⟩ := map_ref_at hi
      obtain ⟨x, hx, ex⟩ := paired_get rL hp
      have hil := (List.getElem?_eq_some_iff.mp hx).1
      have lx := l40 x (List.mem_of_getElem? hx)
      refine ⟨97, 123, rfl, by decide, for_range (fun j σ H' => ∃ v2 v3 v4, σ = [some (.ref q), some (.ref l), some (.ref d), some (.ref o), some (.ref p), v2, v3, v4] ∧ At H' ((ls.take i).flatMap (Bfs.ext Vasedb.alphabet) ++ (Vasedb.alphabet.take j).map fun c => x ++ [c])) ⟨v2, v3, v4, rfl, by rw [List.take_zero, List.map_nil, List.append_nil]; exact hA⟩ ?_ ?_⟩
      · rintro j σ H1 hj ⟨w2, w3, w4, rfl, hA1⟩
        obtain ⟨c, hc, ec⟩ := alpha_at (show j < 26 from hj)
        rw [ec, take_snoc hc, List.map_append, ← List.append_assoc]
        have hM : ((ls.take i).flatMap (Bfs.ext Vasedb.alphabet) ++ (Vasedb.alphabet.take j).map fun c => x ++ [c]).length < 10400 := by
          rw [List.length_append, flat_ext_len, List.length_map, Bfs.alphabet_length, List.length_take, List.length_take]
          have : j < 26 := hj
          omega
        generalize ((ls.take i).flatMap (Bfs.ext Vasedb.alphabet) ++ (Vasedb.alphabet.take j).map fun c => x ++ [c]) = M at *
        rw [hAt] at hA1
        obtain ⟨b1, S1, hO⟩ := hA1
        have ex1 := Ad0.line b1 ex
        refine ⟨_, rfl, _, rfl, by show 1 ≤ sizeLine; decide, fun t nt => ⟨p, t, vl x, [vb c], rfl, rfl, (Same.new nt) _ _ ex1, upd_same, small (by rw [vl_length]; show x.length + 1 ≤ _; omega), fun y H2 s2 hy => ?_⟩⟩
        replace s2 := (Same.new (o := .tup [vb c]) nt).trans s2
        replace hy : H2 y = some (.tup (vl (x ++ [c]))) := hy.trans (by unfold vl; rw [List.map_append]; rfl)
        refine ⟨_, rfl, _, rfl, q, y, hs, x ++ [c], rfl, (hq.but Ad0 b1 nqd).same s2, ok, hy, by rw [List.length_append]; show x.length + 1 ≤ 64; omega, fun H3 st s3 hst => ?_⟩
        have hy3 := s3 _ _ hy
        replace s3 := s2.trans s3
        replace S1 := S1.same s3
        replace hO := hO.same s3
        have b3 : But d H H3 := b1.same s3
        obtain ⟨kvs, D, lk, hk⟩ := id S1
        refine ⟨_, rfl, _, rfl, d, st, kvs, stateK (Bfs.pKey hs (x ++ [c])), rfl, rfl, D, hst, stateK_depth _, _, rfl, ?_⟩
        rw [hk]
        refine ifB (fun e => ?_) (fun e => ?_)
        · have e' : ¬ Bfs.pKey hs (x ++ [c]) ∈ S ++ M.map (Bfs.pKey hs) := by simpa using e
          refine ⟨_, rfl, _, rfl, d, st, kvs, stateK (Bfs.pKey hs (x ++ [c])), rfl, rfl, D, hst, stateK_depth _, Nat.lt_of_le_of_lt (Nat.le_trans lk (by omega)) (show 1010400 < sizeLine by decide), fun H4 b4 D4 => ?_⟩
          have S4 := set_put (fun _ _ => stateK_inj) lk hk D4
          have hO4 := hO.but S1.apart b4 (lines_ne hO S1.ext)
          obtain ⟨os, hO5, rO5⟩ := id hO4
          have los := rO5.length
          have lf := firsts_len (f := Bfs.pKey hs) M S
          refine ⟨_, rfl, tyL hO5, _, rfl, o, _, _, rfl, rfl, hO5, by rw [List.length_map]; exact smallL (by omega), ?_⟩
          have Al := Apart.lst hO5
          have bu := But.upd (d := o) (H := H4) (o := .lst (os.map V.ref ++ [.ref y]))
          refine ⟨_, _, _, rfl, mkA _ _ (but_mut (b3.trans b4) no) ?_ ?_⟩
          · have := S4.but Al bu ndo
            rw [List.map_append, ← List.append_assoc, List.length_append]
            exact this
          · rw [show (M ++ [c].map fun c => x ++ [c]) = M ++ [x ++ [c]] from rfl, firsts_snoc, if_neg e']
            exact ⟨os ++ [y], upd_same.trans (by rw [List.map_append]; rfl), (rO5.but Al bu).snoc (Al.line bu (S1.apart.line b4 hy3))⟩
        · have e' : Bfs.pKey hs (x ++ [c]) ∈ S ++ M.map (Bfs.pKey hs) := of_nd e
          refine ⟨_, _, _, rfl, mkA _ _ b3 ?_ (by rw [show (M ++ [c].map fun c => x ++ [c]) = M ++ [x ++ [c]] from rfl, firsts_snoc, if_pos e']; exact hO)⟩
          rw [List.map_append, ← List.append_assoc, List.length_append]
          refine (set_iff S1 fun k => ?_).mono (by omega)
          refine ⟨fun z => List.mem_append.mpr (.inl z), fun z => (List.mem_append.mp z).elim id fun z => ?_⟩
          have z' : k = Bfs.pKey hs (x ++ [c]) := by simpa using z
          rw [z']
          exact e'
      · rintro σ H1 ⟨w2, w3, w4, rfl, hA1⟩
        refine ⟨_, _, _, _, rfl, ?_⟩
        rw [take_snoc hx, List.flatMap_append, List.flatMap_singleton]
        rw [List.take_of_length_le (show Vasedb.alphabet.length ≤ ((123 : Int) - 97).toNat by rw [Bfs.alphabet_length]; decide)] at hA1
        exact hA1
    · rintro σ H' ⟨v1, v2, v3, v4, rfl, hA⟩
      rw [List.length_map, las, List.take_length, hAt] at hA
      refine ⟨_, rfl, k H' o hA.1 no (hA.2.1.mono ?_) hA.2.2⟩
      rw [flat_ext_len, Bfs.alphabet_length]
      omega
theorem sc_first_of_states : FnScope N_first_of_states P_first_of_states (defScope s_first_of_states) := ⟨rfl, rfl, rfl, by decide +kernel, rfl, by decide +kernel, by decide +kernel⟩
def sp_first_of_states : Sp := fun vs H Q _ => ∃ (q : PySem.Addr) (hs : List Bytes), vs = [.ref q] ∧ LinesL H q hs ∧ WordsOk hs ∧ ∀ H' p, Same H H' → H p = none → LinesL H' p (Bfs.pLines hs) → Q (.ref p) H'
theorem ok_first_of_states (T : Txt K mg ad) : OkD P w K mg base CX0 5 "first_of_states" P_first_of_states sp_first_of_states := by
  obtain ⟨f, fd, hm, F, hb⟩ := T.d_first_of_states
  have G_state_of : OkD P w K mg base CX0 3 "state_of" P_state_of sp_state_of := ok_state_of T
  have G_longer_lines : OkD P w K mg base CX0 4 "longer_lines" P_longer_lines (sp_longer_lines P w) := ok_longer_lines T
  refine ⟨f, fd, hm, F.kp, hb, F.ok sc_first_of_states (fun vs H Q E h => ?_) (fun cdv A outer s H vs Q E hr h => ⟨_, (pss_cons (ps_set (i := 1) sc_first_of_states.nd rfl (Or.inl rfl) pe_nnew)
     (pss_cons (ps_nput hr.units (pv 1) (pe_callD (G_state_of) (hr.mono (by decide)) pass0 (pa_cons (pv 0) (pa_cons (pe_tup pa_nil) pa_nil))) pe_bl rfl)
     (pss_cons (ps_set (i := 2) sc_first_of_states.nd rfl (Or.inl rfl) (pe_lst (pa_cons (pe_tup pa_nil) pa_nil)))
     (pss_cons (ps_set (i := 3) sc_first_of_states.nd rfl (Or.inl rfl) (pe_lst (pa_cons (pe_tup pa_nil) pa_nil)))
     (pss_cons (ps_for PassesOwn.never rfl (pi_range2 rfl T.n_range (pa_cons pe_int (pa_cons pe_int pa_nil))) (pg_name (i := 4) sc_first_of_states.nd rfl (Or.inl rfl))
     (pss_cons (ps_set (i := 2) sc_first_of_states.nd rfl (Or.inl rfl) (pe_callD (G_longer_lines) (hr.mono (by decide)) pass0 (pa_cons (pv 0) (pa_cons (pv 2) (pa_cons (pv 1) pa_nil)))))
     (pss_one (ps_expr (pe_bm PySem.F.plainAttrs_list PySem.F.slot_list_extend PySem.F.type_list_extend mt_extend (pv 3) (pa_cons (pv 2) pa_nil))))))
     (pss_one (ps_ret (pv 3)))))))), ?_⟩)⟩
  · obtain ⟨q, hs, rfl, _⟩ := h
    rfl
  · obtain ⟨q, hs, rfl, hq, ok, k⟩ := h
    intro d H1 nd s1 D1
    refine ⟨_, rfl, _, rfl, by show 0 ≤ sizeLine; decide, fun e1 ne1 => ?_⟩
    have s2 := s1.trans (Same.new (o := .tup []) ne1)
    have D2 := D1.same (Same.new (o := .tup []) ne1)
    refine ⟨q, e1, hs, [], rfl, hq.same s2, ok, upd_same, Nat.zero_le _, fun H3 st s3 hst => ?_⟩
    replace s2 := s2.trans s3
    have D3 := D2.same s3
    refine ⟨d, st, [], stateK (Bfs.pKey hs []), rfl, rfl, D3, hst, stateK_depth _, by show 0 < sizeLine; decide, fun H4 b4 D4 => ?_⟩
    have S4 : SetAt P w stateK H4 d [Bfs.pKey hs []] 1 := set_put (S := []) (n := 0) (fun _ _ => stateK_inj) (Nat.le_refl _) (fun _ => rfl) D4
    have nd2 : ∀ c o, H c = some o → c ≠ d := fun c o h => ne_of_none h nd
    have s4 : Same H H4 := fun c o h => b4 c o (nd2 c o h) (s2 c o h)
    refine ⟨by show 0 ≤ sizeLine; decide, fun e2 ne2 => ⟨by show 1 ≤ sizeLine; decide, fun v nv => ⟨by show 0 ≤ sizeLine; decide, fun e3 ne3 => ⟨by show 1 ≤ sizeLine; decide, fun o no => ?_⟩⟩⟩⟩
    generalize hG1 : upd H4 e2 (.tup []) = G1 at *
    have t1 : Same H4 G1 := by rw [← hG1]; exact Same.new ne2
    have x1 : G1 e2 = some (.tup (vl [])) := by rw [← hG1]; exact upd_same
    generalize hG2 : upd G1 v (.lst [.ref e2]) = G2 at *
    have t2 : Same G1 G2 := by rw [← hG2]; exact Same.new nv
    have x2 : G2 v = some (.lst ([e2].map V.ref)) := by rw [← hG2]; exact upd_same
    generalize hG3 : upd G2 e3 (.tup []) = G3 at *
    have t3 : Same G2 G3 := by rw [← hG3]; exact Same.new ne3
    have x3 : G3 e3 = some (.tup (vl [])) := by rw [← hG3]; exact upd_same
    have t4 : Same G3 (upd G3 o (.lst [.ref e3])) := Same.new no
    have x4 : upd G3 o (.lst [.ref e3]) o = some (.lst ([e3].map V.ref)) := upd_same
    have no0 : H o = none := ((s4.trans (t1.trans t2)).trans t3).free no
    have S5 := ((S4.same t1).same t2).same t3
    have ndo : d ≠ o := S5.live no
    have nov : v ≠ o := ne_of_none (t3 _ _ x2) no
    have hv : LinesL (upd G3 o (.lst [.ref e3])) v [[]] := ⟨[e2], t4 _ _ (t3 _ _ x2), .cons (t4 _ _ (t3 _ _ (t2 _ _ x1))) .nil⟩
    have ho : LinesL (upd G3 o (.lst [.ref e3])) o [[]] := ⟨[e3], x4, .cons (t4 _ _ x3) .nil⟩
    refine ⟨1, 17, rfl, by decide, for_range (fun i σ H' => ∃ lv z, σ = [some (.ref q), some (.ref d), some (.ref lv), some (.ref o), z] ∧ Same H H' ∧ SetAt P w stateK H' d ((Bfs.pl (Bfs.pKey hs) Vasedb.alphabet i).1.map (Bfs.pKey hs)) (1 + 10400 * i) ∧ LinesL H' lv (Bfs.pl (Bfs.pKey hs) Vasedb.alphabet i).2 ∧ lv ≠ o ∧ LinesL H' o (Bfs.pl (Bfs.pKey hs) Vasedb.alphabet i).1)
      ⟨v, none, rfl, ((s4.trans (t1.trans t2)).trans t3).trans t4, S5.same t4, hv, nov, ho⟩ ?_ ?_⟩
    · rintro i σ H' hi ⟨lv, z, rfl, s5, S6, hlv, nlo, hlo⟩
      have hi' : i < 16 := hi
      have few1 := Bfs.pl_few ok.few ok.sum i
      have few2 := Bfs.pl_len2 (f := Bfs.pKey hs) (A := Vasedb.alphabet) i
      have few3 := Bfs.pl_few ok.few ok.sum (i + 1)
      have sh := pl_short (f := Bfs.pKey hs) (A := Vasedb.alphabet) i
      have esucc1 : (Bfs.pl (Bfs.pKey hs) Vasedb.alphabet (i + 1)).1 = (Bfs.pl (Bfs.pKey hs) Vasedb.alphabet i).1 ++ Bfs.firsts (Bfs.pKey hs) ((Bfs.pl (Bfs.pKey hs) Vasedb.alphabet i).1.map (Bfs.pKey hs)) ((Bfs.pl (Bfs.pKey hs) Vasedb.alphabet i).2.flatMap (Bfs.ext Vasedb.alphabet)) := rfl
      have esucc2 : (Bfs.pl (Bfs.pKey hs) Vasedb.alphabet (i + 1)).2 = Bfs.firsts (Bfs.pKey hs) ((Bfs.pl (Bfs.pKey hs) Vasedb.alphabet i).1.map (Bfs.pKey hs)) ((Bfs.pl (Bfs.pKey hs) Vasedb.alphabet i).2.flatMap (Bfs.ext Vasedb.alphabet)) := rfl
      refine ⟨_, rfl, _, rfl, _, rfl, q, lv, d, hs, _, _, _, rfl, hq.same s5, ok, hlv, by omega, fun x hx => by have := sh.2 x hx; omega, S6, by omega, fun H2 p b2 np S7 hp => ?_⟩
      have nd7 : ∀ c o, H c = some o → c ≠ d := nd2
      have s7 : Same H H2 := fun c o h => b2 c o (nd2 c o h) (s5 c o h)
      have hlo2 := hlo.but S6.apart b2 (lines_ne hlo S6.ext)
      obtain ⟨ps, hP, rP⟩ := id hp
      obtain ⟨os, hO, rO⟩ := id hlo2
      have lps := rP.length
      have los := rO.length
      rw [esucc1, List.length_append] at few3
      have npo : p ≠ o := fun z => by
        obtain ⟨_, e, _⟩ := hlo
        rw [z, e] at np
        cases np
      refine ⟨_, rfl, tyL hO, _, rfl, o, p, _, _, rfl, rfl, hO, hP, small (by rw [List.length_map, List.length_map]; omega), ?_⟩
      have Al := Apart.lst hO
      have bu := But.upd (d := o) (H := H2) (o := .lst (os.map V.ref ++ ps.map V.ref))
      refine ⟨p, _, rfl, Same.mut s7 no0, (set_iff (S7.but Al bu ndo) fun k => ?_).mono (by omega), ?_, npo, ?_⟩
      · rw [esucc1, List.map_append]
        have := Bfs.keys_firsts (f := Bfs.pKey hs) ((Bfs.pl (Bfs.pKey hs) Vasedb.alphabet i).2.flatMap (Bfs.ext Vasedb.alphabet)) ((Bfs.pl (Bfs.pKey hs) Vasedb.alphabet i).1.map (Bfs.pKey hs)) k
        exact this.symm
      · rw [esucc2]
        exact hp.but Al bu npo
      · rw [esucc1]
        exact ⟨os ++ ps, upd_same.trans (by rw [List.map_append]), (rO.append rP).but Al bu⟩
    · rintro σ H' ⟨lv, z, rfl, s5, S6, hlv, nlo, hlo⟩
      exact ⟨_, rfl, k H' o s5 no0 hlo⟩
end
end Lw

/-! kinds -/
namespace Lw
open PySem PySem.Spec PyProof.Rows L2
open VasedBase (Bytes PTok Toks)
open Vaseda (Deed Cmd Script Line)

theorem words_ok {s : Script} (h : Rn.Few s) : WordsOk (Vasedb.hasWords s) := ⟨h.four, h.letters⟩
theorem own_wf {s : Script} (wf : Rn.Wf s) : ∀ x ∈ Vasedb.ownWords s, Rn.okW x := by
  intro x hx
  unfold Vasedb.ownWords at hx
  rw [List.mem_eraseDups] at hx
  obtain ⟨c, hc, hx⟩ := List.mem_flatMap.mp hx
  rcases List.mem_append.mp hx with h | h
  · exact (wf c hc).just x h
  · exact (wf c hc).put x h
theorem own_nil {s : Script} (wf : Rn.Wf s) : (Vasedb.ownWords s).contains [] = false := by
  rw [Bool.eq_false_iff]
  intro h
  exact (own_wf wf [] (by simpa using h)).1 rfl
theorem own_len (s : Script) : (Vasedb.ownWords s).length ≤ 2 * s.length := by
  unfold Vasedb.ownWords
  refine Nat.le_trans (Rn.dd_len _) ?_
  induction s with
  | nil => exact Nat.le_refl _
  | cons c r ih =>
    rw [List.flatMap_cons, List.length_append, List.length_cons, List.length_append]
    have h1 : (Vasedb.justOf c.a).length ≤ 1 := by
      rw [just_what]
      split <;> simp
    have h2 : (Vasedb.putOf c.d).length ≤ 1 := by
      rw [put_what]
      split <;> simp
    omega
/-- the kinds of scripts together, as the program has them -/
def kindsP (s : Script) : List Line := Vasedb.ownWords s ++ [[]] ++ (Vasedb.leasts (Vasedb.hasWords s)).map (Vasedb.padded (Vasedb.hasWords s))
theorem kinds_eq {s : Script} (wf : Rn.Wf s) : Vasedb.kindsFor (Vasedb.hasWords s) (Vasedb.ownWords s) = kindsP s := by
  unfold Vasedb.kindsFor kindsP
  rw [own_nil wf]
  rfl
theorem kinds_len {s : Script} (f : Rn.Few s) : (kindsP s).length ≤ 2 * s.length + 17 := by
  unfold kindsP
  rw [List.length_append, List.length_append, List.length_map]
  have := own_len s
  have := Bfs.leasts_few (hs := Vasedb.hasWords s) f.four
  have : ([[]] : List Line).length = 1 := rfl
  omega
theorem pad_len (hs : List Bytes) (x : Bytes) (h : x.length ≤ 16) : (Vasedb.padded hs x).length ≤ 16 := by
  unfold Vasedb.padded
  rw [List.length_append, List.length_replicate]
  have : VasedBase.NAME = 8 := rfl
  omega
theorem leasts_short {hs : List Bytes} (ok : WordsOk hs) : ∀ x ∈ Vasedb.leasts hs, x.length ≤ 16 := by
  rw [Bfs.leasts_eq ok.sum]
  intro x hx
  exact (pl_short 16).1 x (Bfs.firsts_sub _ _ _ hx).1
theorem kinds_short {s : Script} (wf : Rn.Wf s) (f : Rn.Few s) : ∀ x ∈ kindsP s, x.length ≤ 16 := by
  intro x hx
  rcases List.mem_append.mp hx with h | h
  · rcases List.mem_append.mp h with h | h
    · exact Nat.le_trans (own_wf wf x h).2 (by decide)
    · rw [List.mem_singleton] at h
      rw [h]
      exact Nat.zero_le _
  · obtain ⟨y, hy, rfl⟩ := List.mem_map.mp h
    exact pad_len _ y (leasts_short (words_ok f) y hy)
section
variable {P : Program} {w : World} {K : PySem.W.Frag} {mg : Str → Option Value} {base : Heap} {ad : Ad}
theorem sc_first_lines : FnScope N_first_lines P_first_lines (defScope s_first_lines) := ⟨rfl, rfl, rfl, by decide +kernel, rfl, by decide +kernel, by decide +kernel⟩
def sp_first_lines : Sp := fun vs H Q _ => ∃ (q : PySem.Addr) (hs : List Bytes), vs = [.ref q] ∧ LinesL H q hs ∧ WordsOk hs ∧ ∀ H' p, Same H H' → H p = none → LinesL H' p (Vasedb.leasts hs) → Q (.ref p) H'
theorem ok_first_lines (T : Txt K mg ad) : OkD P w K mg base CX0 6 "first_lines" P_first_lines sp_first_lines := by
  obtain ⟨f, fd, hm, F, hb⟩ := T.d_first_lines
  have G_first_of_states : OkD P w K mg base CX0 5 "first_of_states" P_first_of_states sp_first_of_states := ok_first_of_states T
  have G_words_had : OkD P w K mg base CX0 2 "words_had" P_words_had sp_words_had := ok_words_had T
  refine ⟨f, fd, hm, F.kp, hb, F.ok sc_first_lines (fun vs H Q E h => ?_) (fun cdv A outer s H vs Q E hr h => ⟨_, (pss_cons (ps_set (i := 1) sc_first_lines.nd rfl (Or.inl rfl) (pe_lst pa_nil))
     (pss_cons (ps_set (i := 2) sc_first_lines.nd rfl (Or.inl rfl) pe_nnew)
     (pss_cons (ps_for PassesOwn.never rfl (pi_list (pe_callD (G_first_of_states) (hr.mono (by decide)) pass0 (pa_cons (pv 0) pa_nil))) (pg_name (i := 3) sc_first_lines.nd rfl (Or.inl rfl))
     (pss_cons (ps_set (i := 4) sc_first_lines.nd rfl (Or.inl rfl) (pe_callD (G_words_had) (hr.mono (by decide)) pass0 (pa_cons (pv 0) (pa_cons (pv 3) pa_nil))))
     (pss_one (ps_if (pt_cmp (pc_nnotin hr.units (pv 4) (pv 2)))
     (pss_cons (ps_nput hr.units (pv 2) (pv 4) pe_bl rfl)
     (pss_one (ps_expr (pe_bm PySem.F.plainAttrs_list PySem.F.slot_list_append PySem.F.type_list_append mt_append (pv 1) (pa_cons (pv 3) pa_nil)))))
     pss_nil))))
     (pss_one (ps_ret (pv 1)))))), ?_⟩)⟩
  · obtain ⟨q, hs, rfl, _⟩ := h
    rfl
  · obtain ⟨q, hs, rfl, hq, ok, k⟩ := h
    rw [Bfs.leasts_eq ok.sum] at k
    refine ⟨by show 0 ≤ sizeLine; decide, fun o no => ?_⟩
    intro d H1 nd s1 D1
    have s0 : Same H (upd H o (.lst [])) := Same.new no
    have nd0 : H d = none := s0.free nd
    have ndo : d ≠ o := fun z => by rw [z, upd_same] at nd; cases nd
    have ho1 := s1 o _ upd_same
    have s2 := s0.trans s1
    refine ⟨_, rfl, q, hs, rfl, hq.same s2, ok, fun H2 l s3 nl hl => ?_⟩
    obtain ⟨as, hL, rL⟩ := id hl
    have las := rL.length
    have few := Bfs.pl_few ok.few ok.sum 16
    have fewL : (Bfs.pLines hs).length ≤ 336 := few
    have sh : ∀ x ∈ Bfs.pLines hs, x.length ≤ 16 := (pl_short 16).1
    have S3 : SetAt P w maskK H2 d [] 0 := (set_new D1).same s3
    have nld := lines_ne hl S3.ext
    have nlo : l ≠ o := fun z => by rw [z, ho1] at nl; cases nl
    have s4 := s2.trans s3
    have Ad0 := S3.apart
    refine ⟨l, rfl, ⟨_, SqL.of hL⟩, for_list (K := K) (a := l) (xs := as.map V.ref) (fun i σ H' => ∃ v1 v2, σ = [some (.ref q), some (.ref o), some (.ref d), v1, v2] ∧ Same H H' ∧ H' l = some (.lst (as.map V.ref)) ∧ LinesR H' as (Bfs.pLines hs) ∧ SetAt P w maskK H' d (((Bfs.pLines hs).take i).map (Vasedb.mask hs)) i ∧ LinesL H' o (Bfs.firsts (Vasedb.mask hs) [] ((Bfs.pLines hs).take i)))
      ⟨none, none, rfl, s4, hL, rL, S3, [], s3 _ _ ho1, .nil⟩ (fun i σ H' _ ⟨_, _, _, _, z, _⟩ => SqL.of z) ?_ ?_⟩
    · rintro i v σ H' hi ⟨v1, v2, rfl, s5, hL5, rL5, S5, hO5⟩
      obtain ⟨p, hp, rfl⟩ := map_ref_at hi
      obtain ⟨x, hx, ex⟩ := paired_get rL5 hp
      have i400 : i < 336 := by have := (List.getElem?_eq_some_iff.mp hx).1; omega
      refine ⟨_, rfl, _, rfl, q, p, hs, x, rfl, hq.same s5, by have := ok.few; omega, ok.short, ex, by have := sh x (List.mem_of_getElem? hx); omega, fun H6 m s6 hm => ?_⟩
      replace S5 := S5.same s6
      replace hO5 := hO5.same s6
      replace s5 := s5.trans s6
      replace hL5 := s6 _ _ hL5
      replace rL5 := rL5.same s6
      replace ex := s6 _ _ ex
      obtain ⟨kvs, D, lk, hk⟩ := id S5
      refine ⟨_, rfl, _, rfl, d, m, kvs, maskK (Vasedb.mask hs x), rfl, rfl, D, maskK_at hm, maskK_depth8 _, _, rfl, ?_⟩
      rw [hk]
      have tk : (Bfs.pLines hs).take (i + 1) = (Bfs.pLines hs).take i ++ [x] := take_snoc hx
      refine ifB (fun e => ?_) (fun e => ?_)
      · have e' : ¬ Vasedb.mask hs x ∈ [] ++ ((Bfs.pLines hs).take i).map (Vasedb.mask hs) := by
          rw [List.nil_append]
          simpa using e
        refine ⟨_, rfl, _, rfl, d, m, kvs, maskK (Vasedb.mask hs x), rfl, rfl, D, maskK_at hm, maskK_depth8 _, Nat.lt_of_le_of_lt (Nat.le_trans lk (by omega)) (show 1010400 < sizeLine by decide), fun H7 b7 D7 => ?_⟩
        have A := S5.apart
        have S7 := set_put (fun _ _ => maskK_inj) lk hk D7
        have hO7 := hO5.but A b7 (lines_ne hO5 S5.ext)
        obtain ⟨os, hO8, rO8⟩ := id hO7
        have los := rO8.length
        have lf := firsts_len (f := Vasedb.mask hs) ((Bfs.pLines hs).take i) []
        rw [List.length_take] at lf
        refine ⟨_, rfl, tyL hO8, _, rfl, o, _, _, rfl, rfl, hO8, by rw [List.length_map]; exact smallL (by omega), ?_⟩
        have Al := Apart.lst hO8
        have bu := But.upd (d := o) (H := H7) (o := .lst (os.map V.ref ++ [.ref p]))
        have s7 : Same H H7 := fun c u h => b7 c u (ne_of_none h nd0) (s5 c u h)
        refine ⟨_, _, rfl, Same.mut s7 no, bu _ _ nlo (b7 _ _ nld hL5), (rL5.but A b7).but Al bu, ?_, ?_⟩
        · rw [tk, List.map_append]
          exact S7.but Al bu ndo
        · rw [tk, firsts_snocM, if_neg e']
          exact ⟨os ++ [p], upd_same.trans (by rw [List.map_append]; rfl), (rO8.but Al bu).snoc (Al.line bu (A.line b7 ex))⟩
      · have e' : Vasedb.mask hs x ∈ [] ++ ((Bfs.pLines hs).take i).map (Vasedb.mask hs) := of_nd e
        refine ⟨_, _, rfl, s5, hL5, rL5, ?_, ?_⟩
        · rw [tk, List.map_append]
          refine (set_iff S5 fun k => ?_).mono (Nat.le_succ i)
          refine ⟨fun z => List.mem_append.mpr (.inl z), fun z => (List.mem_append.mp z).elim id fun z => ?_⟩
          have z' : k = Vasedb.mask hs x := by simpa using z
          rw [z']
          exact e'
        · rw [tk, firsts_snocM, if_pos e']
          exact hO5
    · rintro σ H' ⟨v1, v2, rfl, s5, hL5, rL5, S5, hO5⟩
      rw [List.length_map, las, List.take_length] at hO5
      exact ⟨_, rfl, k H' o s5 no hO5⟩
theorem sc_padded : FnScope N_padded P_padded (defScope s_padded) := ⟨rfl, rfl, rfl, by decide +kernel, rfl, by decide +kernel, by decide +kernel⟩
def sp_padded : Sp := fun vs H Q _ => ∃ (a : PySem.Addr) (x hs : _) (c : UInt8), vs = [.ref a, vb c] ∧ H a = some (.tup (vl x)) ∧ x.length ≤ 64 ∧ c = Vasedb.freeLetter hs ∧ ∀ H' p, Same H H' → H' p = some (.tup (vl (Vasedb.padded hs x))) → Q (.ref p) H'
theorem ok_padded (T : Txt K mg ad) : OkD P w K mg base CX0 1 "padded" P_padded sp_padded := by
  obtain ⟨f, fd, hm, F, hb⟩ := T.d_padded
  refine ⟨f, fd, hm, F.kp, hb, F.ok sc_padded (fun vs H Q E h => ?_) (fun cdv A outer s H vs Q E hr h => ⟨_, (pss_cons (ps_set (i := 2) sc_padded.nd rfl (Or.inl rfl) (pv 0))
     (pss_cons (ps_for PassesOwn.never rfl (pi_range2 rfl T.n_range (pa_cons (pe_callB call_len_seq (by rfl) T.n_len PySem.boot_len (pa_cons (pv 0) pa_nil)) (pa_cons pe_int pa_nil))) (pg_name (i := 3) sc_padded.nd rfl (Or.inl rfl))
     (pss_one (ps_set (i := 2) sc_padded.nd rfl (Or.inl rfl) (pe_op op_catB (pv 2) (pe_tup (pa_cons (pv 1) pa_nil))))))
     (pss_one (ps_ret (pv 2))))), ?_⟩)⟩
  · obtain ⟨a, x, hs, c, rfl, _⟩ := h
    rfl
  · obtain ⟨a, x, hs, c, rfl, hx, lx, ec, k⟩ := h
    have en : ((9 : Int) - ((vl x).length : Int)).toNat = 9 - x.length := by rw [vl_length]; omega
    refine ⟨_, rfl, _, rfl, a, _, rfl, SqTo hx, _, _, rfl, ⟨(r62 (by rw [vl_length]; omega)).1, (r62 (by rw [vl_length]; omega)).2, by decide, by decide⟩, for_range (fun i σ H' => ∃ p v, σ = [some (.ref a), some (vb c), some (.ref p), v] ∧ Same H H' ∧ H' p = some (.tup (vl (x ++ List.replicate i c)))) ⟨a, none, rfl, Same.refl H, hx.trans (by rw [List.replicate_zero, List.append_nil])⟩ ?_ ?_⟩
    · rintro i σ H' hi ⟨p, v, rfl, s1, hp⟩
      rw [en] at hi
      refine ⟨_, rfl, _, rfl, by show 1 ≤ sizeLine; decide, fun t nt => ⟨p, t, _, [vb c], rfl, rfl, (Same.new nt) _ _ hp, upd_same, small (by rw [vl_length, List.length_append, List.length_replicate]; show x.length + i + 1 ≤ _; omega), fun y H2 s2 hy => ?_⟩⟩
      refine ⟨y, _, rfl, (s1.trans (Same.new nt)).trans s2, hy.trans ?_⟩
      rw [List.replicate_succ', ← List.append_assoc]
      unfold vl
      rw [List.map_append (l₂ := [c])]
      rfl
    · rintro σ H' ⟨p, v, rfl, s1, hp⟩
      rw [en] at hp
      refine ⟨_, rfl, k H' p s1 (hp.trans ?_)⟩
      unfold Vasedb.padded
      rw [ec]
      rfl
theorem sc_kinds_of : FnScope N_kinds_of P_kinds_of (defScope s_kinds_of) := ⟨rfl, rfl, rfl, by decide +kernel, rfl, by decide +kernel, by decide +kernel⟩
def sp_kinds_of (ad : Ad) : Sp := fun vs H Q _ => ∃ (c : PySem.Addr) (s : Script), vs = [.ref c] ∧ CmdsAt ad H c s ∧ s.length ≤ 32 ∧ Rn.Wf s ∧ Rn.Few s ∧ ∀ H' p, Same H H' → H p = none → LinesL H' p (kindsP s) → Q (.ref p) H'
theorem ok_kinds_of (T : Txt K mg ad) : OkD P w K mg base CX0 7 "kinds_of" P_kinds_of (sp_kinds_of ad) := by
  obtain ⟨f, fd, hm, F, hb⟩ := T.d_kinds_of
  have G_looked_for : OkD P w K mg base CX0 1 "looked_for" P_looked_for (sp_looked_for ad) := ok_looked_for T
  have G_own_words : OkD P w K mg base CX0 1 "own_words" P_own_words (sp_own_words ad) := ok_own_words T
  have G_free_letter : OkD P w K mg base CX0 2 "free_letter" P_free_letter sp_free_letter := ok_free_letter T
  have G_first_lines : OkD P w K mg base CX0 6 "first_lines" P_first_lines sp_first_lines := ok_first_lines T
  have G_padded : OkD P w K mg base CX0 1 "padded" P_padded sp_padded := ok_padded T
  refine ⟨f, fd, hm, F.kp, hb, F.ok sc_kinds_of (fun vs H Q E h => ?_) (fun cdv A outer s H vs Q E hr h => ⟨_, (pss_cons (ps_set (i := 1) sc_kinds_of.nd rfl (Or.inl rfl) (pe_callD (G_looked_for) (hr.mono (by decide)) pass0 (pa_cons (pv 0) pa_nil)))
     (pss_cons (ps_set (i := 2) sc_kinds_of.nd rfl (Or.inl rfl) (pe_callD (G_free_letter) (hr.mono (by decide)) pass0 (pa_cons (pv 1) pa_nil)))
     (pss_cons (ps_set (i := 3) sc_kinds_of.nd rfl (Or.inl rfl) (pe_callD (G_own_words) (hr.mono (by decide)) pass0 (pa_cons (pv 0) pa_nil)))
     (pss_cons (ps_expr (pe_bm PySem.F.plainAttrs_list PySem.F.slot_list_append PySem.F.type_list_append mt_append (pv 3) (pa_cons (pe_tup pa_nil) pa_nil)))
     (pss_cons (ps_for PassesOwn.never rfl (pi_list (pe_callD (G_first_lines) (hr.mono (by decide)) pass0 (pa_cons (pv 1) pa_nil))) (pg_name (i := 4) sc_kinds_of.nd rfl (Or.inl rfl))
     (pss_one (ps_expr (pe_bm PySem.F.plainAttrs_list PySem.F.slot_list_append PySem.F.type_list_append mt_append (pv 3) (pa_cons (pe_callD (G_padded) (hr.mono (by decide)) pass0 (pa_cons (pv 4) (pa_cons (pv 2) pa_nil))) pa_nil)))))
     (pss_one (ps_ret (pv 3)))))))), ?_⟩)⟩
  · obtain ⟨c, s, rfl, _⟩ := h
    rfl
  · obtain ⟨c, s, rfl, hC, l32, wf, fw, k⟩ := h
    have ok := words_ok fw
    refine ⟨_, rfl, c, s, rfl, hC, by omega, fun H1 q s1 nq hq => ?_⟩
    refine ⟨_, rfl, q, _, rfl, hq, ok.sum, fun H2 s2 => ?_⟩
    replace s2' := s1.trans s2
    refine ⟨_, rfl, c, s, rfl, hC.same s2', by omega, fun H3 o s3 no ho => ?_⟩
    have no0 := s2'.free no
    have s3' := s2'.trans s3
    obtain ⟨os, hO, rO⟩ := id ho
    have lo := rO.length
    have lw := own_len s
    refine ⟨_, rfl, tyL hO, by show 0 ≤ sizeLine; decide, fun t nt => ?_⟩
    have s4 := Same.new (o := .tup []) nt
    refine ⟨o, _, _, rfl, rfl, s4 _ _ hO, by rw [List.length_map]; exact smallL (by omega), ?_⟩
    have hO4 := s4 _ _ hO
    have Al := Apart.lst hO4
    have bu := But.upd (d := o) (H := upd H3 t (.tup [])) (o := .lst (os.map V.ref ++ [.ref t]))
    have ho5 : LinesL (upd (upd H3 t (.tup [])) o (.lst (os.map V.ref ++ [.ref t]))) o (Vasedb.ownWords s ++ [[]]) :=
      ⟨os ++ [t], upd_same.trans (by rw [List.map_append]; rfl), ((rO.same s4).but Al bu).snoc (Al.line bu (xs := vl []) upd_same)⟩
    have s5 : Same H (upd (upd H3 t (.tup [])) o (.lst (os.map V.ref ++ [.ref t]))) := Same.mut (s3'.trans s4) no0
    have nqo : q ≠ o := by
      obtain ⟨_, e, _⟩ := hq
      exact fun z => by
        have := s2 _ _ e
        rw [z, no] at this
        cases this
    have hq5 := (((hq.same s2).same s3).same s4).but Al bu nqo
    generalize (upd (upd H3 t (.tup [])) o (.lst (os.map V.ref ++ [.ref t]))) = H5 at *
    refine ⟨_, rfl, q, _, rfl, hq5, ok, fun H6 l s6 nl hl => ?_⟩
    obtain ⟨as, hL, rL⟩ := id hl
    have las := rL.length
    have nlo : l ≠ o := fun z => by
      obtain ⟨_, e, _⟩ := ho5
      rw [z, e] at nl
      cases nl
    have few := Bfs.leasts_few (hs := Vasedb.hasWords s) fw.four
    have sh := leasts_short ok
    refine ⟨l, rfl, ⟨_, SqL.of hL⟩, for_list (K := K) (a := l) (xs := as.map V.ref) (fun i σ H' => ∃ v1, σ = [some (.ref c), some (.ref q), some (vb (Vasedb.freeLetter (Vasedb.hasWords s))), some (.ref o), v1] ∧ Same H H' ∧ H' l = some (.lst (as.map V.ref)) ∧ LinesR H' as (Vasedb.leasts (Vasedb.hasWords s)) ∧
        LinesL H' o (Vasedb.ownWords s ++ [[]] ++ ((Vasedb.leasts (Vasedb.hasWords s)).take i).map (Vasedb.padded (Vasedb.hasWords s)))) ⟨none, rfl, s5.trans s6, hL, rL, by rw [List.take_zero, List.map_nil, List.append_nil]; exact ho5.same s6⟩ (fun i σ H' _ ⟨_, _, _, z, _⟩ => SqL.of z) ?_ ?_⟩
    · rintro i v σ H' hi ⟨v1, rfl, s7, hL7, rL7, ho7⟩
      obtain ⟨p, hp, rfl⟩ := map_ref_at hi
      obtain ⟨x, hx, ex⟩ := paired_get rL7 hp
      have i20 : i < 16 := by have := (List.getElem?_eq_some_iff.mp hx).1; omega
      obtain ⟨os7, hO7, rO7⟩ := id ho7
      refine ⟨_, rfl, tyL hO7, _, rfl, _, rfl, p, x, _, _, rfl, ex, by have := sh x (List.mem_of_getElem? hx); omega, rfl, fun H8 y s8 hy => ?_⟩
      replace hO7 := s8 _ _ hO7
      replace rO7 := rO7.same s8
      have lo7 := rO7.length
      rw [List.length_append, List.length_append, List.length_map, List.length_take] at lo7
      have l1 : ([[]] : List Line).length = 1 := rfl
      refine ⟨o, _, _, rfl, rfl, hO7, by rw [List.length_map]; exact smallL (by omega), ?_⟩
      have Al := Apart.lst hO7
      have bu := But.upd (d := o) (H := H8) (o := .lst (os7.map V.ref ++ [.ref y]))
      refine ⟨_, rfl, Same.mut (s7.trans s8) no0, bu _ _ nlo (s8 _ _ hL7), (rL7.same s8).but Al bu, os7 ++ [y], upd_same.trans (by rw [List.map_append]; rfl), ?_⟩
      rw [take_snoc hx, List.map_append, ← List.append_assoc]
      exact (rO7.but Al bu).snoc (Al.line bu hy)
    · rintro σ H' ⟨v1, rfl, s7, hL7, rL7, ho7⟩
      rw [List.length_map, las, List.take_length] at ho7
      exact ⟨_, rfl, k H' o s7 no0 ho7⟩
end
end Lw

/-! kinds: variants, texts -/
namespace Lw
open PySem PySem.Spec PyProof.Rows L2
open VasedBase (Bytes PTok Toks)
open Vaseda (Deed Cmd Script Line)

theorem itT {A B : Prop} (a : A) : if true = true then A else B := a
theorem itF {A B : Prop} (b : B) : if false = true then A else B := b
/-- the variants, as the program has them -/
def var1 (s : Script) (x : Line) : Line := Vasedd.variant (Vasedb.hasWords s) (Vasedb.ownWords s) 1 x
theorem var1_eq (s : Script) (x : Line) : var1 s x = if (Vasedb.ownWords s).contains x = true then x else if x.length = 0 then x else if 15 < x.length then x else x ++ [Vasedb.freeLetter (Vasedb.hasWords s)] := by
  unfold var1 Vasedd.variant
  by_cases c1 : (Vasedb.ownWords s).contains x = true
  · rw [c1]
    rfl
  · rw [if_neg c1, Bool.eq_false_iff.mpr c1]
    by_cases c2 : x.length = 0
    · rw [if_pos c2, List.isEmpty_iff_length_eq_zero.mpr c2]
      rfl
    · rw [if_neg c2, Bool.eq_false_iff.mpr fun z => c2 (List.isEmpty_iff_length_eq_zero.mp z)]
      show (if 16 < x.length + 1 then x else x ++ [_]) = _
      by_cases c3 : 15 < x.length
      · rw [if_pos c3, if_pos (by omega)]
      · rw [if_neg c3, if_neg (by omega)]
theorem var1_len (s : Script) (x : Line) (h : x.length ≤ 16) : (var1 s x).length ≤ 16 := by
  rw [var1_eq]
  split
  · exact h
  · split
    · exact h
    · split
      · exact h
      · rw [List.length_append]
        show x.length + 1 ≤ 16
        omega
def varsP (s : Script) : List Line := (kindsP s).map (var1 s)
def textsP (s : Script) (two : Bool) : List (List Line) := (kindsP s).map (fun x => [x]) ++ if two = true then (kindsP s).flatMap fun x => (varsP s).map fun y => [x, y] else []
theorem texts_len {s : Script} (f : Rn.Few s) (h : s.length ≤ 32) (two : Bool) : (textsP s two).length ≤ 6642 := by
  have k := kinds_len f
  have k' : (kindsP s).length ≤ 81 := by omega
  unfold textsP
  rw [List.length_append, List.length_map]
  have : ((kindsP s).flatMap fun x => (varsP s).map fun y => [x, y]).length = (kindsP s).length * (kindsP s).length := by
    have : ∀ l : List Line, (l.flatMap fun x => (varsP s).map fun y => [x, y]).length = l.length * (kindsP s).length := by
      intro l
      induction l with
      | nil => simp
      | cons a r ih =>
        rw [List.flatMap_cons, List.length_append, ih, List.length_cons, Nat.succ_mul, List.length_map, varsP, List.length_map]
        omega
    exact this _
  have m : (kindsP s).length * (kindsP s).length ≤ 81 * 81 := Nat.mul_le_mul k' k'
  split
  · rw [this]
    omega
  · show _ + 0 ≤ _
    omega
theorem texts_short {s : Script} (wf : Rn.Wf s) (f : Rn.Few s) (two : Bool) : ∀ t ∈ textsP s two, t.length ≤ 2 ∧ ∀ x ∈ t, x.length ≤ 16 := by
  have ks := kinds_short wf f
  have vs : ∀ x ∈ varsP s, x.length ≤ 16 := fun x hx => by
    obtain ⟨y, hy, rfl⟩ := List.mem_map.mp hx
    exact var1_len s y (ks y hy)
  intro t ht
  rcases List.mem_append.mp ht with h | h
  · obtain ⟨x, hx, rfl⟩ := List.mem_map.mp h
    exact ⟨(by show 1 ≤ 2; decide), fun y hy => by rw [List.mem_singleton] at hy; rw [hy]; exact ks x hx⟩
  · split at h
    · obtain ⟨x, hx, h⟩ := List.mem_flatMap.mp h
      obtain ⟨y, hy, rfl⟩ := List.mem_map.mp h
      refine ⟨Nat.le_refl _, fun z hz => ?_⟩
      rcases List.mem_cons.mp hz with rfl | hz
      · exact ks _ hx
      · rw [List.mem_singleton] at hz
        rw [hz]
        exact vs y hy
    · cases h
theorem same_of_but {d : PySem.Addr} {H H' : Hp} (b : But d H H') (n : H d = none) : Same H H' := fun c o e => b c o (ne_of_none e n) e
/-! ### texts -/
def TextsL (H : Hp) (p : PySem.Addr) (ts : List (List Line)) : Prop := ∃ as, H p = some (.lst (as.map V.ref)) ∧ Paired (fun a t => LinesL H a t ∧ a ≠ p) as ts
theorem TextsL.same {H H' : Hp} {p : PySem.Addr} {ts : List (List Line)} (s : Same H H') (h : TextsL H p ts) : TextsL H' p ts := let ⟨as, e, r⟩ := h; ⟨as, s _ _ e, Paired.mapP r fun _ _ q => ⟨q.1.same s, q.2⟩⟩
section
variable {P : Program} {w : World} {K : PySem.W.Frag} {mg : Str → Option Value} {base : Heap} {ad : Ad}
theorem sc_variant_of : FnScope N_variant_of P_variant_of (defScope s_variant_of) := ⟨rfl, rfl, rfl, by decide +kernel, rfl, by decide +kernel, by decide +kernel⟩
def sp_variant_of : Sp := fun vs H Q _ => ∃ (a q : PySem.Addr) (x : Bytes) (s : Script), vs = [.ref a, .ref q, vb (Vasedb.freeLetter (Vasedb.hasWords s))] ∧ H a = some (.tup (vl x)) ∧ x.length ≤ 64 ∧ LinesL H q (Vasedb.ownWords s) ∧ ∀ H' p, Same H H' → H' p = some (.tup (vl (var1 s x))) → Q (.ref p) H'
theorem ok_variant_of (T : Txt K mg ad) : OkD P w K mg base CX0 1 "variant_of" P_variant_of sp_variant_of := by
  obtain ⟨f, fd, hm, F, hb⟩ := T.d_variant_of
  refine ⟨f, fd, hm, F.kp, hb, F.ok sc_variant_of (fun vs H Q E h => ?_) (fun cdv A outer s H vs Q E hr h => ⟨_, (pss_cons (ps_if (PW.pt (pw_or (pt_cmpR (op_inD (hu65 hr)) (pv 0) (pv 1) (by rfl)) (pw_or (pt_cmpR op_eq (pe_callB call_len_seq (by rfl) T.n_len PySem.boot_len (pa_cons (pv 0) pa_nil)) pe_int (nomark _)) (pw_or1 (pt_cmpR op_gt (pe_callB call_len_seq (by rfl) T.n_len PySem.boot_len (pa_cons (pv 0) pa_nil)) pe_int (nomark _))))))
     (pss_one (ps_ret (pv 0)))
     pss_nil)
     (pss_one (ps_ret (pe_op op_catB (pv 0) (pe_tup (pa_cons (pv 2) pa_nil)))))), ?_⟩)⟩
  · obtain ⟨a, q, x, s, rfl, _⟩ := h
    rfl
  · obtain ⟨a, q, x, s, rfl, hx, lx, hq, k⟩ := h
    rw [var1_eq] at k
    refine ⟨_, rfl, _, rfl, dl x, _, dp_line hx, dp_linesL hq, dl_sh _, dls_shL _, _, rfl, ?_⟩
    rw [any_eqv]
    refine ifB (fun e => ?_) (fun e => ?_)
    · rw [if_pos e] at k
      exact itT ⟨_, rfl, k H a (Same.refl H) hx⟩
    rw [if_neg (by rw [e]; exact Bool.false_ne_true)] at k
    refine ⟨_, rfl, a, _, rfl, SqTo hx, rfl, _, rfl, ?_⟩
    rw [vl_length]
    refine ifP (fun e => ?_) (fun e => ?_)
    · rw [vi_eq] at e
      rw [if_pos (by omega)] at k
      exact itT ⟨_, rfl, k H a (Same.refl H) hx⟩
    rw [vi_eq] at e
    rw [if_neg (by omega)] at k
    refine ⟨_, rfl, a, _, rfl, SqTo hx, _, _, rfl, rfl, _, rfl, ?_⟩
    rw [vl_length]
    refine ifP (fun e => ?_) (fun e => ?_)
    · rw [if_pos (by omega)] at k
      exact ⟨_, rfl, k H a (Same.refl H) hx⟩
    · rw [if_neg (by omega)] at k
      refine ⟨_, rfl, _, rfl, by show 1 ≤ sizeLine; decide, fun t nt => ⟨a, t, _, [vb (Vasedb.freeLetter (Vasedb.hasWords s))], rfl, rfl, (Same.new nt) _ _ hx, upd_same, small (by rw [vl_length]; show x.length + 1 ≤ _; omega), fun y H2 s2 hy => ?_⟩⟩
      refine k H2 y ((Same.new nt).trans s2) (hy.trans ?_)
      unfold vl
      rw [List.map_append]
      rfl
theorem sc_variants_of : FnScope N_variants_of P_variants_of (defScope s_variants_of) := ⟨rfl, rfl, rfl, by decide +kernel, rfl, by decide +kernel, by decide +kernel⟩
def sp_variants_of (ad : Ad) : Sp := fun vs H Q _ => ∃ (c q : PySem.Addr) (s : Script), vs = [.ref c, .ref q] ∧ CmdsAt ad H c s ∧ s.length ≤ 32 ∧ Rn.Wf s ∧ Rn.Few s ∧ LinesL H q (kindsP s) ∧ ∀ H' p, Same H H' → H p = none → LinesL H' p (varsP s) → Q (.ref p) H'
theorem ok_variants_of (T : Txt K mg ad) : OkD P w K mg base CX0 3 "variants_of" P_variants_of (sp_variants_of ad) := by
  obtain ⟨f, fd, hm, F, hb⟩ := T.d_variants_of
  have G_looked_for : OkD P w K mg base CX0 1 "looked_for" P_looked_for (sp_looked_for ad) := ok_looked_for T
  have G_own_words : OkD P w K mg base CX0 1 "own_words" P_own_words (sp_own_words ad) := ok_own_words T
  have G_free_letter : OkD P w K mg base CX0 2 "free_letter" P_free_letter sp_free_letter := ok_free_letter T
  have G_variant_of : OkD P w K mg base CX0 1 "variant_of" P_variant_of sp_variant_of := ok_variant_of T
  refine ⟨f, fd, hm, F.kp, hb, F.ok sc_variants_of (fun vs H Q E h => ?_) (fun cdv A outer s H vs Q E hr h => ⟨_, (pss_cons (ps_set (i := 2) sc_variants_of.nd rfl (Or.inr rfl) (pe_callD (G_own_words) (hr.mono (by decide)) pass0 (pa_cons (pv 0) pa_nil)))
     (pss_cons (ps_set (i := 3) sc_variants_of.nd rfl (Or.inr rfl) (pe_callD (G_free_letter) (hr.mono (by decide)) pass0 (pa_cons (pe_callD (G_looked_for) (hr.mono (by decide)) pass0 (pa_cons (pv 0) pa_nil)) pa_nil)))
     (pss_one (ps_ret (pe_lc (own := [("kind", 4)]) (g := gName 4) rfl sc_variants_of.nd (pi_list (pv 1)) (blkOk_by (own := [("kind", 4)]) (N := N_variants_of) (sc := defScope s_variants_of) (by decide +kernel)) (fun _ _ _ _ _ => pg_name (i := 4) sc_variants_of.nd rfl (Or.inl rfl)) (fun _ _ _ _ _ => pts_nil) (fun _ _ _ _ _ => (pe_callD (G_variant_of) (hr.mono (by decide)) pass0 (pa_cons (pv 4) (pa_cons (pv 2) (pa_cons (pv 3) pa_nil)))))))))), ?_⟩)⟩
  · obtain ⟨c, q, s, rfl, _⟩ := h
    rfl
  · obtain ⟨c, q, s, rfl, hC, l32, wf, fw, ⟨as, hL, rL⟩, k⟩ := h
    have las := rL.length
    have klen := kinds_len fw
    refine ⟨_, rfl, c, s, rfl, hC, by omega, fun H1 o s1 no ho => ?_⟩
    refine ⟨_, rfl, c, s, rfl, hC.same s1, by omega, fun H2 h s2 nh hh => ?_⟩
    refine ⟨h, _, rfl, hh, fw.letters, fun H3 s3 => ?_⟩
    have t3 := (s1.trans s2).trans s3
    have ho3 := (ho.same s2).same s3
    refine ⟨_, rfl, q, rfl, ⟨_, SqL.of (t3 _ _ hL)⟩, fun D nD => ?_⟩
    have nD0 := t3.free nD
    have nDo : o ≠ D := by
      obtain ⟨_, e, _⟩ := ho3
      exact ne_of_none e nD
    refine lc_list (K := K) (a := q) (xs := as.map V.ref) (fun i H' => Same H H' ∧ LinesL H' o (Vasedb.ownWords s) ∧ LinesL H' D (((kindsP s).take i).map (var1 s))) ⟨t3.trans (Same.new nD), ho3.same (Same.new nD), [], upd_same, .nil⟩ (fun i H' _ ⟨s4, _⟩ => SqL.of (s4 _ _ hL)) ?_ ?_
    · rintro i v H' hi ⟨s4, ho4, hD4⟩
      obtain ⟨p, hp, rfl⟩ := map_ref_at hi
      obtain ⟨x, hx, ex⟩ := paired_get rL hp
      have i100 : i < 100 := by have := (List.getElem?_eq_some_iff.mp hx).1; omega
      have sx := kinds_short wf fw x (List.mem_of_getElem? hx)
      refine ⟨rfl, _, rfl, _, rfl, _, rfl, p, o, x, s, rfl, s4 _ _ ex, by omega, ho4, fun H5 y s5 hy => ?_⟩
      obtain ⟨ds, hD, rD⟩ := hD4.same s5
      have ld := rD.length
      rw [List.length_map, List.length_take] at ld
      have Al := Apart.lst hD
      have bu := But.upd (d := D) (H := H5) (o := .lst (ds.map V.ref ++ [.ref y]))
      refine ⟨_, hD, by rw [List.length_map]; exact smallL (by omega), Same.mut (s4.trans s5) nD0, (ho4.same s5).but Al bu nDo, ds ++ [y], upd_same.trans (by rw [List.map_append]; rfl), ?_⟩
      rw [take_snoc hx, List.map_append]
      exact (rD.but Al bu).snoc (Al.line bu hy)
    · rintro H' ⟨s4, ho4, hD4⟩
      rw [List.length_map, las, List.take_length] at hD4
      exact k H' D s4 nD0 hD4
theorem sc_looked_at : FnScope N_looked_at P_looked_at (defScope s_looked_at) := ⟨rfl, rfl, rfl, by decide +kernel, rfl, by decide +kernel, by decide +kernel⟩
def sp_looked_at (ad : Ad) : Sp := fun vs H Q _ => ∃ (c : PySem.Addr) (s : Script) (m : Int), vs = [.ref c, .int m] ∧ CmdsAt ad H c s ∧ s.length ≤ 32 ∧ Rn.Wf s ∧ Rn.Few s ∧ ∀ H' p, Same H H' → H p = none → TextsL H' p (textsP s (decide (m = 2))) → Q (.ref p) H'
theorem ok_looked_at (T : Txt K mg ad) : OkD P w K mg base CX0 8 "looked_at" P_looked_at (sp_looked_at ad) := by
  obtain ⟨f, fd, hm, F, hb⟩ := T.d_looked_at
  have G_kinds_of : OkD P w K mg base CX0 7 "kinds_of" P_kinds_of (sp_kinds_of ad) := ok_kinds_of T
  have G_variants_of : OkD P w K mg base CX0 3 "variants_of" P_variants_of (sp_variants_of ad) := ok_variants_of T
  refine ⟨f, fd, hm, F.kp, hb, F.ok sc_looked_at (fun vs H Q E h => ?_) (fun cdv A outer s H vs Q E hr h => ⟨_, (pss_cons (ps_set (i := 2) sc_looked_at.nd rfl (Or.inl rfl) (pe_callD (G_kinds_of) (hr.mono (by decide)) pass0 (pa_cons (pv 0) pa_nil)))
     (pss_cons (ps_setLc (i := 4) (own := [("kind", 3)]) (g := gName 3) rfl sc_looked_at.nd rfl rfl (sw_true rfl rfl rfl (by decide +kernel)) (pi_list (pv 2)) (blkOk_by (own := [("kind", 3)]) (N := N_looked_at) (sc := defScope s_looked_at) (by decide +kernel)) (fun _ _ _ _ _ => pg_name (i := 3) sc_looked_at.nd rfl (Or.inl rfl)) (fun _ _ _ _ _ => pts_nil) (fun _ _ _ _ _ => (pe_lst (pa_cons (pv 3) pa_nil))))
     (pss_cons (ps_if (pt_cmpR op_eq (pv 1) pe_int (nomark _))
     (pss_cons (ps_set (i := 5) sc_looked_at.nd rfl (Or.inl rfl) (pe_callD (G_variants_of) (hr.mono (by decide)) pass0 (pa_cons (pv 0) (pa_cons (pv 2) pa_nil))))
     (pss_one (ps_for PassesOwn.never rfl (pi_list (pv 2)) (pg_name (i := 3) sc_looked_at.nd rfl (Or.inl rfl))
     (pss_one (ps_for PassesOwn.never rfl (pi_list (pv 5)) (pg_name (i := 6) sc_looked_at.nd rfl (Or.inl rfl))
     (pss_one (ps_expr (pe_bm PySem.F.plainAttrs_list PySem.F.slot_list_append PySem.F.type_list_append mt_append (pv 4) (pa_cons (pe_lst (pa_cons (pv 3) (pa_cons (pv 6) pa_nil))) pa_nil)))))))))
     pss_nil)
     (pss_one (ps_ret (pv 4)))))), ?_⟩)⟩
  · obtain ⟨c, s, m, rfl, _⟩ := h
    rfl
  · obtain ⟨c, s, m, rfl, hC, l32, wf, fw, k⟩ := h
    have klen := kinds_len fw
    refine ⟨_, rfl, c, s, rfl, hC, l32, wf, fw, fun H1 q s1 nq hq => ?_⟩
    obtain ⟨as, hL, rL⟩ := id hq
    have las := rL.length
    refine ⟨_, rfl, q, rfl, ⟨_, SqL.of hL⟩, fun o no => ?_⟩
    have no0 := s1.free no
    have nqo : q ≠ o := ne_of_none hL no
    have s2 : Same H1 (upd H1 o (.lst [])) := Same.new no
    refine lc_list (K := K) (a := q) (xs := as.map V.ref) (fun i H' => But o H1 H' ∧ TextsL H' o (((kindsP s).take i).map fun x => [x])) ⟨But.of s2, [], upd_same, .nil⟩ (fun i H' _ ⟨b, _⟩ => SqL.of (b _ _ nqo hL)) ?_ ?_
    · rintro i v H' hi ⟨b1, hT⟩
      obtain ⟨p, hp, rfl⟩ := map_ref_at hi
      obtain ⟨x, hx, ex⟩ := paired_get rL hp
      have i100 : i < 100 := by have := (List.getElem?_eq_some_iff.mp hx).1; omega
      have npo : p ≠ o := ne_of_none ex no
      refine ⟨rfl, _, rfl, by show 1 ≤ sizeLine; decide, fun t nt => ?_⟩
      obtain ⟨ts, hT, rT⟩ := hT
      have lts := Paired.length rT
      rw [List.length_map, List.length_take] at lts
      have nto : t ≠ o := fun z => by rw [z, hT] at nt; cases nt
      have s3 := Same.new (o := .lst [V.ref p]) nt
      have hT3 := s3 _ _ hT
      refine ⟨_, hT3, by rw [List.length_map]; exact smallL (by omega), ?_⟩
      have Al := Apart.lst hT3
      have bu := But.upd (d := o) (H := upd H' t (.lst [V.ref p])) (o := .lst (ts.map V.ref ++ [.ref t]))
      refine ⟨but_mut (b1.same s3) no, ts ++ [t], upd_same.trans (by rw [List.map_append]; rfl), ?_⟩
      rw [take_snoc hx, List.map_append]
      exact paired_app (F := fun a t => LinesL _ a t ∧ a ≠ o) (.cons ⟨⟨[p], bu _ _ nto upd_same, .cons (bu _ _ npo (s3 _ _ (b1 _ _ npo ex))) .nil⟩, nto⟩ .nil) (Paired.mapP rT fun _ _ z => ⟨(z.1.same s3).but Al bu z.2, z.2⟩)
    · rintro H2 ⟨b2, hT⟩
      rw [List.length_map, las, List.take_length] at hT
      refine ⟨_, rfl, rfl, _, rfl, ?_⟩
      have t2 := same_of_but b2 no
      have noT : ∀ ts, TextsL H2 o ts → ∃ xs, H2 o = some (.lst xs) := fun _ h => let ⟨_, e, _⟩ := h; ⟨_, e⟩
      refine ifP (fun e => ?_) (fun e => ?_)
      · have e' : m = 2 := by simpa using e
        subst e'
        refine ⟨_, rfl, _, rfl, c, q, s, rfl, hC.same (s1.trans t2), l32, wf, fw, hq.same t2, fun H3 v s3 nv hv => ?_⟩
        obtain ⟨bs, hV, rV⟩ := id hv
        have lbs := rV.length
        rw [varsP, List.length_map] at lbs
        have hT3 := hT.same s3
        have nvo : v ≠ o := fun z => by
          obtain ⟨_, e, _⟩ := hT
          rw [z, e] at nv
          cases nv
        have hL3 := s3 _ _ (t2 _ _ hL)
        have rL3 := (rL.same t2).same s3
        have npo : ∀ p x, H1 p = some (.tup (vl x)) → p ≠ o := fun p x h => ne_of_none h no
        have tup_o : ∀ (p : PySem.Addr) xs, H3 p = some (.tup xs) → p ≠ o := fun p xs h z => by
          obtain ⟨_, e, _⟩ := hT3
          rw [z, e] at h
          cases h
        -- one text more
        have more : ∀ (H' : Hp) (M : List (List Line)) (p r : PySem.Addr) (x y : Line) (σ : L2.St) (D : Ends), But o H3 H' → TextsL H' o M → M.length ≤ 7000 → H3 p = some (.tup (vl x)) → H3 r = some (.tup (vl y)) → σ[4]? = some (some (.ref o)) → σ[3]? = some (some (.ref p)) → σ[6]? = some (some (.ref r)) →
            (∀ H'', But o H3 H'' → TextsL H'' o (M ++ [[x, y]]) → D.nx σ H'') → tDrop (tBM K "list" rAppend (tVar 4) (tCons (tLst (tCons (tVar 3) (tCons (tVar 6) tNil))) tNil)) D σ H' := by
          intro H' M p r x y σ D b hM lM hp hr e1 e2 e3 kD
          obtain ⟨ts, hT, rT⟩ := hM
          have lts := Paired.length rT
          refine ⟨_, e1, tyL hT, _, e2, _, e3, by show 2 ≤ sizeLine; decide, fun t nt => ?_⟩
          have nto : t ≠ o := fun z => by rw [z, hT] at nt; cases nt
          have s4 := Same.new (o := .lst [V.ref p, V.ref r]) nt
          have hT4 := s4 _ _ hT
          refine ⟨o, _, _, rfl, rfl, hT4, by rw [List.length_map]; exact smallL (by omega), ?_⟩
          have Al := Apart.lst hT4
          have bu := But.upd (d := o) (H := upd H' t (.lst [V.ref p, V.ref r])) (o := .lst (ts.map V.ref ++ [.ref t]))
          refine kD _ ((b.same s4).trans bu) ⟨ts ++ [t], upd_same.trans (by rw [List.map_append]; rfl), ?_⟩
          exact paired_app (F := fun a t => LinesL _ a t ∧ a ≠ o) (.cons ⟨⟨[p, r], bu _ _ nto upd_same, .cons (bu _ _ (tup_o _ _ hp) (s4 _ _ (b _ _ (tup_o _ _ hp) hp))) (.cons (bu _ _ (tup_o _ _ hr) (s4 _ _ (b _ _ (tup_o _ _ hr) hr))) .nil)⟩, nto⟩ .nil) (Paired.mapP rT fun _ _ z => ⟨(z.1.same s4).but Al bu z.2, z.2⟩)
        have lenM : ∀ i j, i ≤ (kindsP s).length → j ≤ (kindsP s).length → ((kindsP s).map (fun x => [x]) ++ ((kindsP s).take i).flatMap (fun x => (varsP s).map fun y => [x, y]) ++ ((varsP s).take j).map fun y => [[], y]).length ≤ 7000 := by
          intro i j hi hj
          have a1 : (((kindsP s).take i).flatMap fun x => (varsP s).map fun y => [x, y]).length = i * (kindsP s).length := by
            have : ∀ l : List Line, (l.flatMap fun x => (varsP s).map fun y => [x, y]).length = l.length * (kindsP s).length := by
              intro l
              induction l with
              | nil => simp
              | cons a r ih =>
                rw [List.flatMap_cons, List.length_append, ih, List.length_cons, Nat.succ_mul, List.length_map, varsP, List.length_map]
                omega
            rw [this, List.length_take, Nat.min_eq_left hi]
          rw [List.length_append, List.length_append, a1, List.length_map, List.length_map, List.length_take]
          have m : i * (kindsP s).length ≤ 81 * 81 := Nat.mul_le_mul (by omega) (by omega)
          omega
        refine ⟨_, rfl, q, rfl, ⟨_, SqL.of hL3⟩, for_list (K := K) (a := q) (xs := as.map V.ref) (fun i σ H' => ∃ v1 v2, σ = [some (.ref c), some (.int 2), some (.ref q), v1, some (.ref o), some (.ref v), v2] ∧ But o H3 H' ∧ TextsL H' o ((kindsP s).map (fun x => [x]) ++ ((kindsP s).take i).flatMap fun x => (varsP s).map fun y => [x, y])) ⟨none, none, rfl, But.of (Same.refl H3), by rw [List.take_zero, List.flatMap_nil, List.append_nil]; exact hT3⟩ (fun i σ H' _ ⟨_, _, _, b, _⟩ => SqL.of (b _ _ nqo hL3)) ?_ ?_⟩
        · rintro i v0 σ H' hi ⟨v1, v2, rfl, b4, hT4⟩
          obtain ⟨p, hp, rfl⟩ := map_ref_at hi
          obtain ⟨x, hx, ex⟩ := paired_get rL3 hp
          have il := (List.getElem?_eq_some_iff.mp hx).1
          refine ⟨_, rfl, v, rfl, ⟨_, SqL.of (b4 _ _ nvo hV)⟩, for_list (K := K) (a := v) (xs := bs.map V.ref) (fun j σ H' => ∃ v2, σ = [some (.ref c), some (.int 2), some (.ref q), some (.ref p), some (.ref o), some (.ref v), v2] ∧ But o H3 H' ∧ TextsL H' o ((kindsP s).map (fun x => [x]) ++ ((kindsP s).take i).flatMap (fun x => (varsP s).map fun y => [x, y]) ++ ((varsP s).take j).map fun y => [x, y])) ⟨v2, rfl, b4, by rw [List.take_zero, List.map_nil, List.append_nil]; exact hT4⟩ (fun i σ H' _ ⟨_, _, b, _⟩ => SqL.of (b _ _ nvo hV)) ?_ ?_⟩
          · rintro j w σ H5 hj ⟨w2, rfl, b5, hT5⟩
            obtain ⟨r, hr, rfl⟩ := map_ref_at hj
            obtain ⟨y, hy, ey⟩ := paired_get rV hr
            have jl := (List.getElem?_eq_some_iff.mp hy).1
            rw [varsP, List.length_map] at jl
            refine more H5 _ p r x y _ _ b5 hT5 ?_ ex ey rfl rfl rfl fun H'' b6 hT6 => ⟨_, rfl, b6, ?_⟩
            · have := lenM i j (by omega) (by omega)
              simp only [List.length_append, List.length_map] at this ⊢
              exact this
            · rw [take_snoc hy, List.map_append, ← List.append_assoc]
              exact hT6
          · rintro σ H5 ⟨w2, rfl, b5, hT5⟩
            rw [List.length_map, lbs, show (kindsP s).length = (varsP s).length from (List.length_map ..).symm, List.take_length] at hT5
            refine ⟨_, _, rfl, b5, ?_⟩
            rw [take_snoc hx, List.flatMap_append, List.flatMap_singleton, ← List.append_assoc]
            exact hT5
        · rintro σ H' ⟨v1, v2, rfl, b4, hT4⟩
          rw [List.length_map, las, List.take_length] at hT4
          exact ⟨_, rfl, k H' o (Same.but ((s1.trans t2).trans s3) b4 no0) no0 hT4⟩
      · have e' : decide (m = 2) = false := decide_eq_false fun z => e (by rw [z])
        rw [e'] at k
        exact ⟨_, rfl, k H2 o (s1.trans t2) no0 (by unfold textsP; rw [if_neg (by decide), List.append_nil]; exact hT)⟩
end
end Lw

/-! judging: numbers, places, alike -/
namespace Lw
open PySem PySem.Spec PyProof.Rows L2
open VasedBase (Bytes PTok Toks)
open Vaseda (Deed Cmd Script Line)

/-- a list of numbers lies at p -/
def RowL (H : Hp) (p : PySem.Addr) (l : List Int) : Prop := H p = some (.lst (l.map V.int))
def lineN (x : Bytes) : List Int := (x.length : Int) :: x.map fun c => (c.toNat : Int)
theorem lineN_v (x : Bytes) : (lineN x).map V.int = V.int (x.length : Int) :: vl x := by
  unfold lineN vl
  rw [List.map_cons, List.map_map]
  rfl
def textN (t : List Line) : List Int := (t.length : Int) :: lineN (Vaseda.showText t)
theorem RowL.same {H H' : Hp} {p : PySem.Addr} {l : List Int} (s : Same H H') (h : RowL H p l) : RowL H' p l := s _ _ h
def spotV (s : Vasedb.Spot) : List V := [.int (s.k : Int), .bl s.last]
def SpotsL (H : Hp) (p : PySem.Addr) (l : List Vasedb.Spot) : Prop := ∃ as, H p = some (.lst (as.map V.ref)) ∧ Paired (fun a s => H a = some (.tup (spotV s))) as l
theorem SpotsL.same {H H' : Hp} {p : PySem.Addr} {l : List Vasedb.Spot} (s : Same H H') (h : SpotsL H p l) : SpotsL H' p l := let ⟨as, e, r⟩ := h; ⟨as, s _ _ e, Paired.mapP r fun _ _ q => s _ _ q⟩
def spotsTo (n : Nat) : List Vasedb.Spot := (List.range n).flatMap fun i => [⟨i + 1, false⟩, ⟨i + 1, true⟩]
theorem spots_eq : Vasedb.spots = spotsTo 23 ++ [⟨24, true⟩] := by decide +kernel
theorem spotsTo_succ (n : Nat) : spotsTo (n + 1) = spotsTo n ++ [⟨n + 1, false⟩] ++ [⟨n + 1, true⟩] := by
  unfold spotsTo
  rw [List.range_succ, List.flatMap_append, List.flatMap_singleton, List.append_assoc]
  rfl
theorem spotsTo_len (n : Nat) : (spotsTo n).length = 2 * n := by
  induction n with
  | zero => rfl
  | succ n ih =>
    rw [spotsTo_succ, List.length_append, List.length_append, ih]
    show 2 * n + 1 + 1 = _
    omega
section
variable {P : Program} {w : World} {K : PySem.W.Frag} {mg : Str → Option Value} {base : Heap} {ad : Ad}
theorem sc_line_numbers : FnScope N_line_numbers P_line_numbers (defScope s_line_numbers) := ⟨rfl, rfl, rfl, by decide +kernel, rfl, by decide +kernel, by decide +kernel⟩
def sp_line_numbers : Sp := fun vs H Q _ => ∃ (a : PySem.Addr) (x : Bytes), vs = [.ref a] ∧ H a = some (.tup (vl x)) ∧ x.length ≤ 64 ∧ ∀ H' p, Same H H' → H p = none → RowL H' p (lineN x) → Q (.ref p) H'
theorem ok_line_numbers (T : Txt K mg ad) : OkD P w K mg base CX0 1 "line_numbers" P_line_numbers sp_line_numbers := by
  obtain ⟨f, fd, hm, F, hb⟩ := T.d_line_numbers
  refine ⟨f, fd, hm, F.kp, hb, F.ok sc_line_numbers (fun vs H Q E h => ?_) (fun cdv A outer s H vs Q E hr h => ⟨_, (pss_one (ps_ret (pe_op op_cat (pe_lst (pa_cons (pe_callB call_len_seq (by rfl) T.n_len PySem.boot_len (pa_cons (pv 0) pa_nil)) pa_nil)) (pe_callTy call_list_of (by rfl) T.n_list (by decide +kernel) (pa_cons (pv 0) pa_nil))))), ?_⟩)⟩
  · obtain ⟨a, x, rfl, _⟩ := h
    rfl
  · obtain ⟨a, x, rfl, hx, lx, k⟩ := h
    refine ⟨_, rfl, a, _, rfl, SqTo hx, by show 1 ≤ sizeLine; decide, fun l1 n1 => ?_⟩
    have s1 := Same.new (o := .lst [V.int ((vl x).length : Int)]) n1
    refine ⟨_, rfl, a, _, rfl, SqTo (s1 _ _ hx), fun l2 n2 => ?_⟩
    have s2 := Same.new (o := .lst (vl x)) n2
    refine ⟨l1, l2, _, _, rfl, rfl, s2 _ _ upd_same, upd_same, small (by rw [vl_length]; show 1 + x.length ≤ _; omega), fun p np => ?_⟩
    refine k _ p ((s1.trans s2).trans (Same.new np)) ((s1.trans s2).free np) (upd_same.trans ?_)
    rw [lineN_v, vl_length]
    rfl
theorem sc_text_numbers : FnScope N_text_numbers P_text_numbers (defScope s_text_numbers) := ⟨rfl, rfl, rfl, by decide +kernel, rfl, by decide +kernel, by decide +kernel⟩
def sp_text_numbers : Sp := fun vs H Q _ => ∃ (q : PySem.Addr) (t : List Line), vs = [.ref q] ∧ LinesL H q t ∧ t.length ≤ 100 ∧ (∀ x ∈ t, x.length ≤ 64) ∧ ∀ H' p, Same H H' → H p = none → RowL H' p (textN t) → Q (.ref p) H'
theorem show_len : ∀ t : List Line, (∀ x ∈ t, x.length ≤ 64) → (Vaseda.showText t).length ≤ 65 * t.length
  | [], _ => Nat.le_refl _
  | x :: r, h => by
    show ((x ++ [10]) ++ Vaseda.showText r).length ≤ _
    rw [List.length_append, List.length_append]
    have : (x :: r).length = r.length + 1 := rfl
    have := show_len r fun y hy => h y (List.mem_cons_of_mem _ hy)
    have := h x List.mem_cons_self
    have : ([10] : Bytes).length = 1 := rfl
    omega
theorem ok_text_numbers (T : Txt K mg ad) : OkD P w K mg base CX0 1 "text_numbers" P_text_numbers sp_text_numbers := by
  obtain ⟨f, fd, hm, F, hb⟩ := T.d_text_numbers
  refine ⟨f, fd, hm, F.kp, hb, F.ok sc_text_numbers (fun vs H Q E h => ?_) (fun cdv A outer s H vs Q E hr h => ⟨_, (pss_cons (ps_set (i := 1) sc_text_numbers.nd rfl (Or.inl rfl) (pe_lst pa_nil))
     (pss_cons (ps_for PassesOwn.never rfl (pi_list (pv 0)) (pg_name (i := 2) sc_text_numbers.nd rfl (Or.inl rfl))
     (pss_cons (ps_expr (pe_bm PySem.F.plainAttrs_list PySem.F.slot_list_extend PySem.F.type_list_extend mt_extT (pv 1) (pa_cons (pv 2) pa_nil)))
     (pss_one (ps_expr (pe_bm PySem.F.plainAttrs_list PySem.F.slot_list_append PySem.F.type_list_append mt_append (pv 1) (pa_cons pe_int pa_nil))))))
     (pss_one (ps_ret (pe_op op_cat (pe_lst (pa_cons (pe_callB call_len_seq (by rfl) T.n_len PySem.boot_len (pa_cons (pv 0) pa_nil)) (pa_cons (pe_callB call_len_seq (by rfl) T.n_len PySem.boot_len (pa_cons (pv 1) pa_nil)) pa_nil))) (pv 1)))))), ?_⟩)⟩
  · obtain ⟨q, t, rfl, _⟩ := h
    rfl
  · obtain ⟨q, t, rfl, ⟨as, hL, rL⟩, lt, st, k⟩ := h
    have las := rL.length
    refine ⟨by show 0 ≤ sizeLine; decide, fun o no => ?_⟩
    have s0 : Same H (upd H o (.lst [])) := Same.new no
    refine ⟨_, rfl, q, rfl, ⟨_, SqL.of (s0 _ _ hL)⟩, for_list (K := K) (a := q) (xs := as.map V.ref) (fun i σ H' => ∃ v1, σ = [some (.ref q), some (.ref o), v1] ∧ Same H H' ∧ H' o = some (.lst (vl (Vaseda.showText (t.take i))))) ⟨none, rfl, s0, upd_same⟩ (fun i σ H' _ ⟨_, _, s1, _⟩ => SqL.of (s1 _ _ hL)) ?_ ?_⟩
    · rintro i v σ H' hi ⟨v1, rfl, s1, hO⟩
      obtain ⟨p, hp, rfl⟩ := map_ref_at hi
      obtain ⟨x, hx, ex⟩ := paired_get rL hp
      have sl := show_len (t.take i) fun x hx => st x (List.mem_of_mem_take hx)
      rw [List.length_take] at sl
      have sx := st x (List.mem_of_getElem? hx)
      refine ⟨_, rfl, tyL hO, _, rfl, o, p, _, _, rfl, rfl, hO, SqT.of (s1 _ _ ex), small (by rw [vl_length, vl_length]; omega), ?_⟩
      refine ⟨_, rfl, tyL upd_same, o, _, _, rfl, rfl, upd_same, by rw [List.length_append, vl_length, vl_length]; exact smallL (by omega), ?_⟩
      refine ⟨_, rfl, Same.mut (Same.mut s1 no) no, upd_same.trans ?_⟩
      rw [take_snoc hx]
      unfold Vaseda.showText vl
      rw [List.flatMap_append, List.flatMap_singleton, List.map_append, List.map_append, ← List.append_assoc]
      rfl
    · rintro σ H' ⟨v1, rfl, s1, hO⟩
      rw [List.length_map, las, List.take_length] at hO
      have sl := show_len t st
      refine ⟨_, rfl, q, _, rfl, SqLo (s1 _ _ hL), _, rfl, o, _, rfl, SqLo hO, by show 2 ≤ sizeLine; decide, fun l1 n1 => ?_⟩
      have s2 := Same.new (o := .lst [V.int ((as.map V.ref).length : Int), V.int ((vl (Vaseda.showText t)).length : Int)]) n1
      refine ⟨_, rfl, l1, o, _, _, rfl, rfl, upd_same, s2 _ _ hO, small (by rw [vl_length]; show 2 + _ ≤ _; omega), fun p np => ?_⟩
      refine k _ p ((s1.trans s2).trans (Same.new np)) ((s1.trans s2).free np) (upd_same.trans ?_)
      unfold textN
      rw [List.map_cons, lineN_v, vl_length, List.length_map, las]
      rfl
theorem sc_places : FnScope N_places P_places (defScope s_places) := ⟨rfl, rfl, rfl, by decide +kernel, rfl, by decide +kernel, by decide +kernel⟩
def sp_places : Sp := fun vs H Q _ => vs = [] ∧ ∀ H' p, Same H H' → H p = none → SpotsL H' p Vasedb.spots → Q (.ref p) H'
theorem ok_places (T : Txt K mg ad) : OkD P w K mg base CX0 1 "places" P_places sp_places := by
  obtain ⟨f, fd, hm, F, hb⟩ := T.d_places
  refine ⟨f, fd, hm, F.kp, hb, F.ok sc_places (fun vs H Q E h => ?_) (fun cdv A outer s H vs Q E hr h => ⟨_, (pss_cons (ps_set (i := 0) sc_places.nd rfl (Or.inl rfl) (pe_lst pa_nil))
     (pss_cons (ps_for PassesOwn.never rfl (pi_range2 rfl T.n_range (pa_cons pe_int (pa_cons pe_int pa_nil))) (pg_name (i := 1) sc_places.nd rfl (Or.inl rfl))
     (pss_cons (ps_expr (pe_bm PySem.F.plainAttrs_list PySem.F.slot_list_append PySem.F.type_list_append mt_append (pv 0) (pa_cons (pe_tup (pa_cons (pv 1) (pa_cons pe_bl pa_nil))) pa_nil)))
     (pss_one (ps_expr (pe_bm PySem.F.plainAttrs_list PySem.F.slot_list_append PySem.F.type_list_append mt_append (pv 0) (pa_cons (pe_tup (pa_cons (pv 1) (pa_cons pe_bl pa_nil))) pa_nil))))))
     (pss_cons (ps_expr (pe_bm PySem.F.plainAttrs_list PySem.F.slot_list_append PySem.F.type_list_append mt_append (pv 0) (pa_cons (pe_tup (pa_cons pe_int (pa_cons pe_bl pa_nil))) pa_nil)))
     (pss_one (ps_ret (pv 0)))))), ?_⟩)⟩
  · obtain ⟨rfl, _⟩ := h
    rfl
  · obtain ⟨rfl, k⟩ := h
    refine ⟨by show 0 ≤ sizeLine; decide, fun o no => ?_⟩
    have s0 : Same H (upd H o (.lst [])) := Same.new no
    -- one place more
    have more : ∀ (H' : Hp) (M : List Vasedb.Spot) (n : Nat) (b : Bool) (tn : TE) (σ : L2.St) (D : Ends), Same H H' → SpotsL H' o M → M.length ≤ 100 → σ[0]? = some (some (.ref o)) → (∀ H' Q, Q (.int (n : Int)) H' → tn σ H' Q) →
        (∀ H'', Same H H'' → SpotsL H'' o (M ++ [⟨n, b⟩]) → D.nx σ H'') → tDrop (tBM K "list" rAppend (tVar 0) (tCons (tTup (tCons tn (tCons (tC (.bl b)) tNil))) tNil)) D σ H' := by
      intro H' M n b tn σ D s1 hM lM e1 e2 kD
      obtain ⟨ts, hT, rT⟩ := hM
      have lts := Paired.length rT
      refine ⟨_, e1, tyL hT, e2 _ _ ?_⟩
      refine ⟨by show 2 ≤ sizeLine; decide, fun t nt => ?_⟩
      have s4 := Same.new (o := .tup [V.int (n : Int), V.bl b]) nt
      have hT4 := s4 _ _ hT
      refine ⟨o, _, _, rfl, rfl, hT4, by rw [List.length_map]; exact smallL (by omega), ?_⟩
      have Al := Apart.lst hT4
      have bu := But.upd (d := o) (H := upd H' t (.tup [V.int (n : Int), V.bl b])) (o := .lst (ts.map V.ref ++ [.ref t]))
      refine kD _ (Same.mut (s1.trans s4) no) ⟨ts ++ [t], upd_same.trans (by rw [List.map_append]; rfl), ?_⟩
      exact paired_app (F := fun a (s : Vasedb.Spot) => upd (upd H' t (.tup [V.int (n : Int), V.bl b])) o (.lst (ts.map V.ref ++ [.ref t])) a = some (HO.tup (spotV s))) (.cons (a := t) (b := ⟨n, b⟩) (Al.line bu upd_same) .nil) (Paired.mapP rT fun _ _ z => Al.line bu (s4 _ _ z))
    refine ⟨1, 24, rfl, by decide, for_range (fun i σ H' => ∃ v1, σ = [some (.ref o), v1] ∧ Same H H' ∧ SpotsL H' o (spotsTo i)) ⟨none, rfl, s0, [], upd_same, .nil⟩ ?_ ?_⟩
    · rintro i σ H' hi ⟨v1, rfl, s1, hM⟩
      have hi' : i < 23 := hi
      have en : ((1 : Int) + (i : Int)) = ((i + 1 : Nat) : Int) := by omega
      rw [en]
      have ls := spotsTo_len i
      refine more H' _ (i + 1) false (tVar 1) _ _ s1 hM (by omega) rfl (fun H' Q q => ⟨_, rfl, q⟩) fun H2 s2 hM2 => ?_
      refine more H2 _ (i + 1) true (tVar 1) _ _ s2 hM2 (by rw [List.length_append]; show (spotsTo i).length + 1 ≤ _; omega) rfl (fun H' Q q => ⟨_, rfl, q⟩) fun H3 s3 hM3 => ?_
      rw [← spotsTo_succ] at hM3
      exact ⟨_, rfl, s3, hM3⟩
    · rintro σ H' ⟨v1, rfl, s1, hM⟩
      refine more H' _ 24 true (tC (.int 24)) _ _ s1 hM (by rw [spotsTo_len]; decide) rfl (fun H' Q q => q) fun H2 s2 hM2 => ?_
      have e : spotsTo ((24 : Int) - 1).toNat ++ [⟨24, true⟩] = Vasedb.spots := spots_eq.symm
      rw [e] at hM2
      exact ⟨_, rfl, k H2 o s2 no hM2⟩
end
end Lw

/-! judging: alike -/
namespace Lw
open PySem PySem.Spec PyProof.Rows L2
open VasedBase (Bytes PTok Toks)
open Vaseda (Deed Cmd Script Line)

/-! ### the first one -/
structure Fst {α : Type} (q : α → Bool) (l : List α) (i : Nat) : Prop where
  le : i ≤ l.length
  no : ∀ x ∈ l.take i, q x = false
  yes : ∀ x, l[i]? = some x → q x = true
theorem find_take {α : Type} {q : α → Bool} : ∀ {l : List α} {i : Nat}, (∀ x ∈ l.take i, q x = false) → l.find? q = (l.drop i).find? q
  | [], 0, _ => rfl
  | [], _ + 1, _ => rfl
  | _ :: _, 0, _ => rfl
  | x :: r, i + 1, h => by
    rw [List.find?_cons, h x (by rw [List.take_succ_cons]; exact List.mem_cons_self)]
    exact find_take (l := r) (i := i) fun y hy => h y (by rw [List.take_succ_cons]; exact List.mem_cons_of_mem _ hy)
theorem Fst.find {α : Type} {q : α → Bool} {l : List α} {i : Nat} (h : Fst q l i) : l.find? q = l[i]? := by
  rw [find_take h.no]
  cases e : l[i]? with
  | none =>
    rw [List.drop_eq_nil_of_le (List.getElem?_eq_none_iff.mp e)]
    rfl
  | some x =>
    rw [Lx.drop_at' e, List.find?_cons, h.yes x e]
theorem find_flat {α β : Type} {g : α → List β} {q : β → Bool} {l : List α} {i : Nat} {a : α} (h : ∀ x ∈ l.take i, (g x).find? q = none) (ha : l[i]? = some a) {b : β} (hb : (g a).find? q = some b) : (l.flatMap g).find? q = some b := by
  rw [List.find?_flatMap]
  rw [show l = l.take i ++ l.drop i from (List.take_append_drop i l).symm, List.findSome?_append]
  rw [List.findSome?_eq_none_iff.mpr h, Lx.drop_at' ha, List.findSome?_cons, hb]
  rfl
theorem find_flat_none {α β : Type} {g : α → List β} {q : β → Bool} {l : List α} (h : ∀ x ∈ l, (g x).find? q = none) : (l.flatMap g).find? q = none := by
  rw [List.find?_flatMap]
  exact List.findSome?_eq_none_iff.mpr h
theorem cmds_app {ad : Ad} {H H' : Hp} {p a b : PySem.Addr} {s u : Script} {xs ys : List V} (s1 : Same H H') (ha : CmdsAt ad H a s) (hb : CmdsAt ad H b u) (ea : H a = some (.lst xs)) (eb : H b = some (.lst ys)) (hp : H' p = some (.lst (xs ++ ys))) : CmdsAt ad H' p (s ++ u) := by
  obtain ⟨as, e1, r1⟩ := ha
  obtain ⟨bs, e2, r2⟩ := hb
  rw [e1] at ea
  rw [e2] at eb
  cases ea
  cases eb
  exact ⟨as ++ bs, hp.trans (by rw [List.map_append]), paired_app (F := CmdAt ad H') (Paired.mapP r2 fun _ _ q => q.same s1) (Paired.mapP r1 fun _ _ q => q.same s1)⟩
theorem map_ref_inj : ∀ {as bs : List PySem.Addr}, as.map V.ref = bs.map V.ref → as = bs
  | [], [], _ => rfl
  | [], _ :: _, h => by cases h
  | _ :: _, [], h => by cases h
  | a :: r, b :: t, h => by
    have h' := List.cons.inj (show V.ref a :: r.map V.ref = V.ref b :: t.map V.ref from h)
    rw [V.ref.inj h'.1, map_ref_inj h'.2]
theorem dlsT_eqv (l m : List Line) : PyData.eqv (.tuple (l.map dl)) (.tuple (m.map dl)) = decide (l = m) := by
  rw [PyData.eqv]
  exact dls_eqv l m
/-- whether two scripts make something else of a line -/
def unl (k : Nat) (b : Bool) (s u : Script) (x : Line) : Bool := !decide (Rn.come k b s [] [] x 0 = Rn.come k b u [] [] x 0)
def unlAt (s u : Script) (a : Vasedb.At) : Bool := unl a.p.k a.p.last s u a.x
def alikeR (s u : Script) : List Int := match (Vasedb.ats (kindsP (s ++ u))).find? (unlAt s u) with
  | none => [1]
  | some a => 0 :: (a.p.k : Int) :: ((Vasedb.bit a.p.last : Nat) : Int) :: lineN a.x
section
variable {P : Program} {w : World} {K : PySem.W.Frag} {mg : Str → Option Value} {base : Heap} {ad : Ad}
theorem sc_first_unlike : FnScope N_first_unlike P_first_unlike (defScope s_first_unlike) := ⟨rfl, rfl, rfl, by decide +kernel, rfl, by decide +kernel, by decide +kernel⟩
def sp_first_unlike (P : Program) (w : World) (ad : Ad) : Sp := fun vs H Q _ => ∃ (r1 r2 q : PySem.Addr) (ks : List Line) (k : Nat) (b : Bool) (B : Hp → Nat → Prop) (d1 c1 : PySem.Addr) (s1 : Script) (d2 c2 : PySem.Addr) (s2 : Script) (n : Nat), vs = [.ref r1, .ref r2, .ref q, .int (k : Int), .bl b] ∧
  Two P w ad B r1 d1 c1 s1 r2 d2 c2 s2 ∧ B H n ∧ Rn.Wf s1 ∧ s1.length ≤ 64 ∧ Rn.Wf s2 ∧ s2.length ≤ 64 ∧ n ≤ 8000000 ∧ LinesL H q ks ∧ ks.length ≤ 100 ∧ (∀ x ∈ ks, x.length ≤ 64) ∧
  ∀ H' i, But2 d1 d2 H H' → B H' (n + 200) → Fst (unl k b s1 s2) ks i → Q (.int (i : Nat)) H'
theorem ok_first_unlike (T : Txt K mg ad) : OkD P w K mg base CX0 6 "first_unlike" P_first_unlike (sp_first_unlike P w ad) := by
  obtain ⟨f, fd, hm, F, hb⟩ := T.d_first_unlike
  have G_Runner_come : OkM P w K mg base CX0 5 ad.cRunner "come" P_Runner_come (sp_Runner_come P w ad) := ok_Runner_come T
  refine ⟨f, fd, hm, F.kp, hb, F.ok sc_first_unlike (fun vs H Q E h => ?_) (fun cdv A outer s H vs Q E hr h => ⟨_, (pss_cons (ps_for PassesOwn.never rfl (pi_range1 rfl T.n_range (pa_cons (pe_callB call_len_seq (by rfl) T.n_len PySem.boot_len (pa_cons (pv 2) pa_nil)) pa_nil)) (pg_name (i := 5) sc_first_unlike.nd rfl (Or.inl rfl))
     (pss_one (ps_if (pt_cmpR (op_neD hr.units) (pe_methD (pv 0) T.cl_Runner (G_Runner_come) (hr.mono (by decide)) pass0 (pa_cons (pe_ix ix_list (pv 2) (pv 5) (fun _ _ => rfl)) (pa_cons (pv 3) (pa_cons (pv 4) pa_nil)))) (pe_methD (pv 1) T.cl_Runner (G_Runner_come) (hr.mono (by decide)) pass0 (pa_cons (pe_ix ix_list (pv 2) (pv 5) (fun _ _ => rfl)) (pa_cons (pv 3) (pa_cons (pv 4) pa_nil)))) (nomark _))
     (pss_one (ps_ret (pv 5)))
     pss_nil)))
     (pss_one (ps_ret (pe_callB call_len_seq (by rfl) T.n_len PySem.boot_len (pa_cons (pv 2) pa_nil))))), ?_⟩)⟩
  · obtain ⟨r1, r2, q, ks, k, b, B, d1, c1, s1, d2, c2, s2, n, rfl, _⟩ := h
    rfl
  · obtain ⟨r1, r2, q, ks, k, b, B, d1, c1, s1, d2, c2, s2, n, rfl, W, hB, w1, l1, w2, l2, hn, hq, lk, sk, kk⟩ := h
    have x1 := (W.one _ _ hB).dext
    have x2 := (W.two _ _ hB).dext
    obtain ⟨as, hL, rL⟩ := id hq
    have las := rL.length
    refine ⟨_, rfl, q, _, rfl, SqLo hL, _, rfl, (r62 (by rw [List.length_map]; omega)).1, (r62 (by rw [List.length_map]; omega)).2, for_range (fun i σ H' => ∃ v, σ = [some (.ref r1), some (.ref r2), some (.ref q), some (.int (k : Int)), some (.bl b), v] ∧ But2 d1 d2 H H' ∧ B H' (n + 2 * i) ∧ ∀ x ∈ ks.take i, unl k b s1 s2 x = false) ⟨none, rfl, But2.of (Same.refl H), hB, fun x hx => by simp at hx⟩ ?_ ?_⟩
    · rintro i σ H' hi ⟨v, rfl, b1, B1, inv⟩
      have hi' : i < ks.length := by rw [List.length_map] at hi; omega
      obtain ⟨x, hx⟩ : ∃ x, ks[i]? = some x := ⟨ks[i], List.getElem?_eq_getElem hi'⟩
      obtain ⟨a, ha, hax⟩ := paired_get' rL hx
      have lx := sk x (List.mem_of_getElem? hx)
      obtain ⟨as1, hL1, rL1⟩ := hq.but2 b1 x1 x2
      have has : as1 = as := by
        obtain ⟨φ, e1⟩ := x1
        obtain ⟨φ', e2⟩ := x2
        have e := b1 q _ (fun z => by rw [z, e1] at hL; cases hL) (fun z => by rw [z, e2] at hL; cases hL) hL
        rw [hL1] at e
        have e' : as1.map V.ref = as.map V.ref := HO.lst.inj (Option.some.inj e)
        exact map_ref_inj e'
      subst has
      obtain ⟨a', ha', hax1⟩ := paired_get' rL1 hx
      obtain rfl : a' = a := Option.some.inj (ha'.symm.trans ha)
      have R1 := W.one _ _ B1
      rw [Int.zero_add]
      refine ⟨_, rfl, r1, _, _, rfl, R1.insE, rnF_come, _, rfl, _, rfl, q, _, _, .ref a', rfl, rfl, SqL.of hL1, atI_nat (by rw [List.getElem?_map, ha]; rfl), _, rfl, _, rfl, ?_⟩
      refine ⟨r1, a', x, k, b, d1, c1, s1, _, rfl, R1, w1, l1, by omega, hax1, lx, fun H2 p b2 R2 hp => ?_⟩
      have B2 := W.stepA _ _ _ _ B1 b2 R2 (by omega)
      have Q2 := W.two _ _ B2
      have hax2 := R1.apart.line b2 hax1
      have hL2 := b2 _ _ (lines_ne ⟨_, hL1, rL1⟩ R1.dext) hL1
      refine ⟨_, rfl, r2, _, _, rfl, Q2.insE, rnF_come, _, rfl, _, rfl, q, _, _, .ref a', rfl, rfl, SqL.of hL2, atI_nat (by rw [List.getElem?_map, ha]; rfl), _, rfl, _, rfl, ?_⟩
      refine ⟨r2, a', x, k, b, d2, c2, s2, _, rfl, Q2, w2, l2, by omega, hax2, lx, fun H3 p' b3 R3 hp' => ?_⟩
      have B3 := W.stepB _ _ _ _ B2 b3 R3 (by omega)
      have b13 := (b1.trans b2.two1).trans b3.two2
      refine ⟨_, _, dp_linesT (hp.but Q2.apart b3), dp_linesT hp', dls_shT _, dls_shT _, _, rfl, ?_⟩
      rw [dlsT_eqv]
      refine ifB (fun e => ?_) (fun e => ?_)
      · refine ⟨_, rfl, kk H3 i b13 (W.stepA _ _ _ _ B3 (But.of (Same.refl _)) ((W.one _ _ B3).mono (by omega)) (by omega)) ⟨Nat.le_of_lt hi', inv, fun y hy => ?_⟩⟩
        rw [hx] at hy
        rw [← Option.some.inj hy]
        exact e
      · refine ⟨_, rfl, b13, W.stepA _ _ _ _ B3 (But.of (Same.refl _)) ((W.one _ _ B3).mono (by omega)) (by omega), fun y hy => ?_⟩
        rw [take_snoc hx, List.mem_append, List.mem_singleton] at hy
        rcases hy with h | h
        · exact inv y h
        · rw [h]; exact e
    · rintro σ H' ⟨v, rfl, b1, B1, inv⟩
      have z : (((as.map V.ref).length : Nat) : Int).toNat = ks.length := by rw [List.length_map, las]; omega
      rw [z] at inv B1
      obtain ⟨as1, hL1, rL1⟩ := hq.but2 b1 x1 x2
      refine ⟨_, rfl, q, _, rfl, SqLo hL1, ?_⟩
      rw [List.length_map, rL1.length]
      exact kk H' ks.length b1 (W.stepA _ _ _ _ B1 (But.of (Same.refl _)) ((W.one _ _ B1).mono (by omega)) (by omega)) ⟨Nat.le_refl _, inv, fun y hy => by rw [List.getElem?_eq_none (Nat.le_refl _)] at hy; cases hy⟩
theorem lineN_len (x : Bytes) : (lineN x).length = x.length + 1 := by
  unfold lineN
  rw [List.length_cons, List.length_map]
/-- two new runners -/
theorem runs_two {P : Program} {w : World} {ad : Ad} {H H1 H2 : Hp} {x y d1 d2 c1 c2 dx dy : PySem.Addr} {s u : Script} (nx : H x = none) (ndx : H dx = none) (b1 : But x (upd (upd H dx (.own x)) x (.ins ad.cRunner dx [])) H1) (nd1 : upd (upd H dx (.own x)) x (.ins ad.cRunner dx []) d1 = none) (R1 : RunAt P w ad H1 x d1 c1 s 0)
    (ny : H1 y = none) (ndy : H1 dy = none) (b2 : But y (upd (upd H1 dy (.own y)) y (.ins ad.cRunner dy [])) H2) (nd2 : upd (upd H1 dy (.own y)) y (.ins ad.cRunner dy []) d2 = none) (R2 : RunAt P w ad H2 y d2 c2 u 0) :
    Same H H2 ∧ H d1 = none ∧ H d2 = none ∧ Two P w ad (Both P w ad x d1 c1 s y d2 c2 u) x d1 c1 s y d2 c2 u ∧ Both P w ad x d1 c1 s y d2 c2 u H2 0 := by
  have s1 : Same H H1 := mk_same nx ndx b1
  have s2 : Same H1 H2 := mk_same ny ndy b2
  have f : ∀ {G : Hp} {a e g : PySem.Addr} {o o' : HO}, upd (upd G e o) a o' g = none → G g = none := fun {G a e g o o'} h => by
    by_cases z : g = a
    · subst z
      rw [upd_same] at h
      cases h
    · rw [upd_ne z] at h
      by_cases z' : g = e
      · subst z'
        rw [upd_same] at h
        cases h
      · rw [upd_ne z'] at h
        exact h
  have n1 := f nd1
  have n2 := f nd2
  have ne : d1 ≠ d2 := by
    obtain ⟨_, e⟩ := R1.dext
    exact ne_of_none e n2
  exact ⟨s1.trans s2, n1, s1.free n2, two_of ne, R1.same s2, R2⟩
theorem sc_alike : FnScope N_alike P_alike (defScope s_alike) := ⟨rfl, rfl, rfl, by decide +kernel, rfl, by decide +kernel, by decide +kernel⟩
def sp_alike (ad : Ad) : Sp := fun vs H Q _ => ∃ (a b : PySem.Addr) (s u : Script), vs = [.ref a, .ref b] ∧ CmdsAt ad H a s ∧ CmdsAt ad H b u ∧ s.length ≤ 16 ∧ u.length ≤ 16 ∧ Rn.Wf s ∧ Rn.Wf u ∧ Rn.Few (s ++ u) ∧ ∀ H' p, Same H H' → H p = none → RowL H' p (alikeR s u) → Q (.ref p) H'
theorem ok_alike (T : Txt K mg ad) : OkD P w K mg base CX0 8 "alike" P_alike (sp_alike ad) := by
  obtain ⟨f, fd, hm, F, hb⟩ := T.d_alike
  have G_kinds_of : OkD P w K mg base CX0 7 "kinds_of" P_kinds_of (sp_kinds_of ad) := ok_kinds_of T
  have G_Runner : OkI P w K mg base CX0 1 ad.cRunner "Runner" P_Runner_init (sp_Runner_init P w ad) := ok_Runner_init T
  have G_places : OkD P w K mg base CX0 1 "places" P_places sp_places := ok_places T
  have G_first_unlike : OkD P w K mg base CX0 6 "first_unlike" P_first_unlike (sp_first_unlike P w ad) := ok_first_unlike T
  have G_line_numbers : OkD P w K mg base CX0 1 "line_numbers" P_line_numbers sp_line_numbers := ok_line_numbers T
  refine ⟨f, fd, hm, F.kp, hb, F.ok sc_alike (fun vs H Q E h => ?_) (fun cdv A outer s H vs Q E hr h => ⟨_, (pss_cons (ps_set (i := 2) sc_alike.nd rfl (Or.inl rfl) (pe_callD (G_kinds_of) (hr.mono (by decide)) pass0 (pa_cons (pe_op op_cat (pv 0) (pv 1)) pa_nil)))
     (pss_cons (ps_set (i := 3) sc_alike.nd rfl (Or.inl rfl) (pe_makeD (G_Runner) (hr.mono (by decide)) pass0 (pa_cons (pv 0) pa_nil)))
     (pss_cons (ps_set (i := 4) sc_alike.nd rfl (Or.inl rfl) (pe_makeD (G_Runner) (hr.mono (by decide)) pass0 (pa_cons (pv 1) pa_nil)))
     (pss_cons (ps_for PassesOwn.never rfl (pi_list (pe_callD0 (G_places) (hr.mono (by decide)) pass0)) (pg_tup rfl (pgs_cons (pg_name (i := 5) sc_alike.nd rfl (Or.inl rfl)) (pgs_cons (pg_name (i := 6) sc_alike.nd rfl (Or.inl rfl)) pgs_nil)))
     (pss_cons (ps_set (i := 7) sc_alike.nd rfl (Or.inl rfl) (pe_callD (G_first_unlike) (hr.mono (by decide)) pass0 (pa_cons (pv 3) (pa_cons (pv 4) (pa_cons (pv 2) (pa_cons (pv 5) (pa_cons (pv 6) pa_nil)))))))
     (pss_one (ps_if (pt_cmpR op_lt (pv 7) (pe_callB call_len_seq (by rfl) T.n_len PySem.boot_len (pa_cons (pv 2) pa_nil)) (nomark _))
     (pss_one (ps_ret (pe_op op_cat (pe_lst (pa_cons pe_int (pa_cons (pv 5) (pa_cons (pe_callTy call_int1 (by rfl) T.n_int (by decide +kernel) (pa_cons (pv 6) pa_nil)) pa_nil)))) (pe_callD (G_line_numbers) (hr.mono (by decide)) pass0 (pa_cons (pe_ix ix_list (pv 2) (pv 7) (fun _ _ => rfl)) pa_nil)))))
     pss_nil))))
     (pss_one (ps_ret (pe_lst (pa_cons pe_int pa_nil)))))))), ?_⟩)⟩
  · obtain ⟨a, b, s, u, rfl, _⟩ := h
    rfl
  · obtain ⟨a, b, s, u, rfl, hA, hB, ls, lu, ws, wu, fw, k⟩ := h
    have wsu : Rn.Wf (s ++ u) := fun c hc => (List.mem_append.mp hc).elim (ws c) (wu c)
    have lsu : (s ++ u).length ≤ 32 := by rw [List.length_append]; omega
    obtain ⟨xs, eA, rA⟩ := id hA
    obtain ⟨ys, eB, rB⟩ := id hB
    have lxs := Paired.length rA
    have lys := Paired.length rB
    refine ⟨_, rfl, _, rfl, a, b, _, _, rfl, rfl, eA, eB, small (by rw [List.length_map, List.length_map]; omega), fun p0 n0 => ?_⟩
    have s0 := Same.new (o := .lst (xs.map V.ref ++ ys.map V.ref)) n0
    refine ⟨p0, s ++ u, rfl, cmds_app s0 hA hB eA eB upd_same, lsu, wsu, fw, fun H1 q s1 nq hq => ?_⟩
    have t1 := s0.trans s1
    refine ⟨_, rfl, fun x dx nx ndx nex => ?_⟩
    have sx : Same H1 (upd (upd H1 dx (.own x)) x (.ins ad.cRunner dx [])) := mk_same nx ndx fun _ _ _ h => h
    refine ⟨x, dx, a, s, rfl, upd_same, (hA.same t1).same sx, fun H2 d1 b2 nd1 R1 => ⟨rfl, ?_⟩⟩
    have s2 : Same H1 H2 := mk_same nx ndx b2
    refine ⟨_, rfl, fun y dy ny ndy ney => ?_⟩
    have sy : Same H2 (upd (upd H2 dy (.own y)) y (.ins ad.cRunner dy [])) := mk_same ny ndy fun _ _ _ h => h
    refine ⟨y, dy, b, u, rfl, upd_same, ((hB.same t1).same s2).same sy, fun H3 d2 b3 nd2 R2 => ⟨rfl, ?_⟩⟩
    obtain ⟨s3, nd1', nd2', W, hBo⟩ := runs_two nx ndx b2 nd1 R1 ny ndy b3 nd2 R2
    have nd10 := t1.free nd1'
    have nd20 := t1.free nd2'
    have t3 := t1.trans s3
    refine ⟨rfl, fun H4 l s4 nl hl => ?_⟩
    have t4 := t3.trans s4
    replace hBo := W.new _ _ _ hBo s4
    have hq4 := (hq.same s3).same s4
    obtain ⟨zs, hZ, rZ⟩ := id hl
    have lzs := Paired.length rZ
    have l47 : Vasedb.spots.length = 47 := by decide +kernel
    have x1 := (W.one _ _ hBo).dext
    have x2 := (W.two _ _ hBo).dext
    have nl1 : l ≠ d1 := fun z => by obtain ⟨_, e⟩ := x1; rw [z, e] at hZ; cases hZ
    have nl2 : l ≠ d2 := fun z => by obtain ⟨_, e⟩ := x2; rw [z, e] at hZ; cases hZ
    have klen := kinds_len fw
    have ksh := kinds_short wsu fw
    have sm : ∀ H', But2 d1 d2 H4 H' → Same H H' := fun H' b c o h => b c o (ne_of_none h nd10) (ne_of_none h nd20) (t4 c o h)
    refine ⟨l, rfl, ⟨_, SqL.of hZ⟩, for_list (K := K) (a := l) (xs := zs.map V.ref) (fun i σ H' => ∃ v5 v6 v7, σ = [some (.ref a), some (.ref b), some (.ref q), some (.ref x), some (.ref y), v5, v6, v7] ∧ But2 d1 d2 H4 H' ∧ Both P w ad x d1 a s y d2 b u H' (200 * i) ∧ ∀ p ∈ Vasedb.spots.take i, ((kindsP (s ++ u)).map fun x => (⟨p, x⟩ : Vasedb.At)).find? (unlAt s u) = none)
      ⟨none, none, none, rfl, But2.of (Same.refl H4), hBo, fun p hp => by simp at hp⟩ (fun i σ H' _ ⟨_, _, _, _, b, _⟩ => SqL.of (b _ _ nl1 nl2 hZ)) ?_ ?_⟩
    · rintro i v σ H' hi ⟨v5, v6, v7, rfl, b5, B5, inv⟩
      obtain ⟨g, hg, rfl⟩ := map_ref_at hi
      obtain ⟨sp, hsp, eg⟩ := paired_get rZ hg
      have ilt := (List.getElem?_eq_some_iff.mp hsp).1
      have eg5 : H' g = some (.tup (spotV sp)) := b5 g _ (fun z => by obtain ⟨_, e⟩ := x1; rw [z, e] at eg; cases eg) (fun z => by obtain ⟨_, e⟩ := x2; rw [z, e] at eg; cases eg) eg
      have hq5 := hq4.but2 b5 x1 x2
      refine ⟨g, _, rfl, SqT.of eg5, rfl, .int (sp.k : Int), _, rfl, .bl sp.last, _, rfl, rfl, ?_⟩
      refine ⟨_, rfl, _, rfl, _, rfl, _, rfl, _, rfl, x, y, q, kindsP (s ++ u), sp.k, sp.last, _, d1, a, s, d2, b, u, _, rfl, W, B5, ws, by omega, wu, by omega, by omega, hq5, by omega, fun z hz => Nat.le_trans (ksh z hz) (by decide), fun H6 j b6 B6 fst => ?_⟩
      have hq6 := hq5.but2 b6 (W.one _ _ B5).dext (W.two _ _ B5).dext
      obtain ⟨qs, hQ, rQ⟩ := id hq6
      have lqs := rQ.length
      have b56 := b5.trans b6
      refine ⟨_, rfl, _, rfl, q, _, rfl, SqLo hQ, _, _, rfl, rfl, _, rfl, ?_⟩
      rw [List.length_map, lqs]
      have fnd := fst.find
      have fm : ((kindsP (s ++ u)).map fun x => (⟨sp, x⟩ : Vasedb.At)).find? (unlAt s u) = ((kindsP (s ++ u))[j]?).map fun x => ⟨sp, x⟩ := by
        rw [List.find?_map, ← fnd]
        rfl
      refine ifP (fun e => ?_) (fun e => ?_)
      · have hj : j < (kindsP (s ++ u)).length := by omega
        have hx : (kindsP (s ++ u))[j]? = some (kindsP (s ++ u))[j] := List.getElem?_eq_getElem hj
        rw [hx] at fm
        have ff := find_flat (g := fun p => (kindsP (s ++ u)).map fun x => (⟨p, x⟩ : Vasedb.At)) inv hsp fm
        obtain ⟨ka, hka, ex⟩ := paired_get' rQ hx
        have hR : alikeR s u = 0 :: (sp.k : Int) :: ((Vasedb.bit sp.last : Nat) : Int) :: lineN (kindsP (s ++ u))[j] := by
          unfold alikeR
          rw [show (Vasedb.ats (kindsP (s ++ u))).find? (unlAt s u) = _ from ff]
        rw [hR] at k
        refine ⟨_, rfl, _, rfl, .inr ⟨sp.last, rfl, ?_⟩⟩
        refine ⟨by show 3 ≤ sizeLine; decide, fun l1 n1 => ?_⟩
        have s7 := Same.new (o := .lst [V.int 0, V.int (sp.k : Int), V.int (if sp.last = true then 1 else 0)]) n1
        refine ⟨_, rfl, _, rfl, q, _, _, .ref ka, rfl, rfl, SqL.of (s7 _ _ hQ), atI_nat (by rw [List.getElem?_map, hka]; rfl), ka, _, rfl, s7 _ _ ex, Nat.le_trans (ksh _ (List.mem_of_getElem? hx)) (by decide), fun H8 l2 s8 n2 hl2 => ?_⟩
        refine ⟨l1, l2, _, _, rfl, rfl, s8 _ _ upd_same, hl2, small (by rw [List.length_map, lineN_len]; have := ksh _ (List.mem_of_getElem? hx); show 3 + _ ≤ _; omega), fun p np => ?_⟩
        have t8 := (sm _ b56).trans (s7.trans s8)
        refine k _ p (t8.trans (Same.new np)) (t8.free np) (upd_same.trans ?_)
        cases sp.last <;> rfl
      · have hj : j = (kindsP (s ++ u)).length := by have := fst.le; omega
        rw [hj, List.getElem?_eq_none (Nat.le_refl _)] at fm
        refine ⟨_, _, _, rfl, b56, ?_, fun p hp => ?_⟩
        · rw [Nat.mul_succ]
          exact B6
        · rw [take_snoc hsp, List.mem_append, List.mem_singleton] at hp
          rcases hp with h | h
          · exact inv p h
          · rw [h]; exact fm
    · rintro σ H' ⟨v5, v6, v7, rfl, b5, B5, inv⟩
      rw [List.length_map, lzs, List.take_length] at inv
      have hR : alikeR s u = [1] := by
        unfold alikeR
        rw [show (Vasedb.ats (kindsP (s ++ u))).find? (unlAt s u) = none from find_flat_none inv]
      rw [hR] at k
      refine ⟨by show 1 ≤ sizeLine; decide, fun p np => ?_⟩
      exact k _ p ((sm _ b5).trans (Same.new np)) ((sm _ b5).free np) upd_same
end
end Lw

/-! judging: texts -/
namespace Lw
open PySem PySem.Spec PyProof.Rows L2
open VasedBase (Bytes PTok Toks)
open Vaseda (Deed Cmd Script Line)

/-! ### what speaks against a text -/
def jApart (s u : Script) (t : List Line) : Bool := !decide (Rn.runP s t = Rn.runP u t)
def jUndone (s u : Script) (t : List Line) : Bool := !decide (Rn.nextP u (Rn.runP s t) = some t)
def jOrder (s u : Script) (t : List Line) : Bool := !decide (Rn.nextP u (Rn.runP s t) = Rn.nextP s (Rn.runP u t))
def jTwice (s _ : Script) (t : List Line) : Bool := !decide (Rn.nextP s (Rn.runP s t) = Rn.runP s t)
def judge (c : Int) (s u : Script) (t : List Line) : Bool := if c = 3 then jApart s u t else if c = 4 then jUndone s u t else if c = 5 then jOrder s u t else jTwice s u t
def lookR (c : Int) (s u : Script) (two : Bool) : List Int := match (textsP (s ++ u) two).find? (judge c s u) with
  | none => [1]
  | some t => 0 :: textN t
section
variable {P : Program} {w : World} {K : PySem.W.Frag} {mg : Str → Option Value} {base : Heap} {ad : Ad}
theorem textN_len (t : List Line) : (textN t).length = (Vaseda.showText t).length + 2 := by
  unfold textN
  rw [List.length_cons, lineN_len]
def JuAt (P : Program) (w : World) (ad : Ad) (H : Hp) (r1 r2 q : PySem.Addr) (s1 s2 : Script) (t : List Line) (Q : (Hp → Prop) → Prop) : Prop := ∃ (B : Hp → Nat → Prop) (d1 c1 d2 c2 : PySem.Addr) (n : Nat), Two P w ad B r1 d1 c1 s1 r2 d2 c2 s2 ∧ B H n ∧
  Rn.Wf s1 ∧ s1.length ≤ 64 ∧ Rn.Wf s2 ∧ s2.length ≤ 64 ∧ n ≤ 7000000 ∧ LinesL H q t ∧ t.length ≤ 100 ∧ (∀ x ∈ t, x.length ≤ 64) ∧ Q (fun H' => But2 d1 d2 H H' ∧ B H' (n + 400))
def sp_judge (P : Program) (w : World) (ad : Ad) (g : Script → Script → List Line → Bool) : Sp := fun vs H Q _ => ∃ (r1 r2 q : PySem.Addr) (s1 s2 : Script) (t : List Line), vs = [.ref r1, .ref r2, .ref q] ∧ JuAt P w ad H r1 r2 q s1 s2 t fun G => ∀ H', G H' → Q (.bl (g s1 s2 t)) H'
theorem b_up {B : Hp → Nat → Prop} {r1 d1 c1 : PySem.Addr} {s1 : Script} {r2 d2 c2 : PySem.Addr} {s2 : Script} {H : Hp} {n m : Nat} (W : Two P w ad B r1 d1 c1 s1 r2 d2 c2 s2) (h : B H n) (z : n ≤ m) : B H m := W.stepA _ _ _ _ h (But.of (Same.refl H)) ((W.one _ _ h).mono z) z
theorem sc_apart_for : FnScope N_apart_for P_apart_for (defScope s_apart_for) := ⟨rfl, rfl, rfl, by decide +kernel, rfl, by decide +kernel, by decide +kernel⟩
theorem ok_apart_for (T : Txt K mg ad) : OkD P w K mg base CX0 7 "apart_for" P_apart_for (sp_judge P w ad jApart) := by
  obtain ⟨f, fd, hm, F, hb⟩ := T.d_apart_for
  have G_run : OkD P w K mg base CX0 6 "run" P_run (sp_run P w ad) := ok_run T
  refine ⟨f, fd, hm, F.kp, hb, F.ok sc_apart_for (fun vs H Q E h => ?_) (fun cdv A outer s H vs Q E hr h => ⟨_, (pss_one (ps_ret (pe_cmpR (op_neD hr.units) (pe_callD (G_run) (hr.mono (by decide)) pass0 (pa_cons (pv 0) (pa_cons (pv 2) pa_nil))) (pe_callD (G_run) (hr.mono (by decide)) pass0 (pa_cons (pv 1) (pa_cons (pv 2) pa_nil))) (nomark _)))), ?_⟩)⟩
  · obtain ⟨r1, r2, q, s1, s2, t, rfl, _⟩ := h
    rfl
  · obtain ⟨r1, r2, q, s1, s2, t, rfl, B, d1, c1, d2, c2, n, W, hB, w1, l1, w2, l2, hn, hq, lt, st, k⟩ := h
    refine ⟨_, rfl, _, rfl, r1, q, t, d1, c1, s1, n, rfl, W.one _ _ hB, w1, l1, by omega, hq, lt, st, fun H1 v b1 R1 hv _ => ?_⟩
    have B1 := W.stepA _ _ _ _ hB b1 R1 (by omega)
    have hq1 := hq.but2 (d2 := d2) b1.two1 (W.one _ _ hB).dext (W.two _ _ hB).dext
    have Q1 := W.two _ _ B1
    refine ⟨_, rfl, _, rfl, r2, q, t, d2, c2, s2, n + 100, rfl, Q1, w2, l2, by omega, hq1, lt, st, fun H2 v2 b2 R2 hv2 _ => ?_⟩
    have B2 := W.stepB _ _ _ _ B1 b2 R2 (by omega)
    have hv1 := hv.but2 (d1 := d1) b2.two2 (W.one _ _ B1).dext Q1.dext
    refine ⟨_, _, dp_opt hv1, dp_opt hv2, dopt_sh _, dopt_sh _, ?_⟩
    rw [dopt_eqv]
    exact k H2 ⟨b1.two1.trans b2.two2, b_up W B2 (by omega)⟩
theorem sc_undone_fails : FnScope N_undone_fails P_undone_fails (defScope s_undone_fails) := ⟨rfl, rfl, rfl, by decide +kernel, rfl, by decide +kernel, by decide +kernel⟩
theorem ok_undone_fails (T : Txt K mg ad) : OkD P w K mg base CX0 8 "undone_fails" P_undone_fails (sp_judge P w ad jUndone) := by
  obtain ⟨f, fd, hm, F, hb⟩ := T.d_undone_fails
  have G_run_after : OkD P w K mg base CX0 7 "run_after" P_run_after (sp_run_after P w ad) := ok_run_after T
  refine ⟨f, fd, hm, F.kp, hb, F.ok sc_undone_fails (fun vs H Q E h => ?_) (fun cdv A outer s H vs Q E hr h => ⟨_, (pss_one (ps_ret (pe_cmpR (op_neD hr.units) (pe_callD (G_run_after) (hr.mono (by decide)) pass0 (pa_cons (pv 1) (pa_cons (pv 0) (pa_cons (pv 2) pa_nil)))) (pv 2) (nomark _)))), ?_⟩)⟩
  · obtain ⟨r1, r2, q, s1, s2, t, rfl, _⟩ := h
    rfl
  · obtain ⟨r1, r2, q, s1, s2, t, rfl, B, d1, c1, d2, c2, n, W, hB, w1, l1, w2, l2, hn, hq, lt, st, k⟩ := h
    refine ⟨_, rfl, _, rfl, _, rfl, r2, r1, q, t, B, d1, c1, s1, d2, c2, s2, n, rfl, W, hB, w1, l1, w2, l2, by omega, hq, lt, st, fun H1 v b1 B1 hv => ?_⟩
    have hq1 := hq.but2 b1 (W.one _ _ hB).dext (W.two _ _ hB).dext
    refine ⟨_, rfl, _, dopt (some t), dp_opt hv, dp_linesL hq1, dopt_sh _, dopt_sh _, ?_⟩
    rw [dopt_eqv]
    exact k H1 ⟨b1, b_up W B1 (by omega)⟩
theorem sc_order_matters : FnScope N_order_matters P_order_matters (defScope s_order_matters) := ⟨rfl, rfl, rfl, by decide +kernel, rfl, by decide +kernel, by decide +kernel⟩
theorem ok_order_matters (T : Txt K mg ad) : OkD P w K mg base CX0 8 "order_matters" P_order_matters (sp_judge P w ad jOrder) := by
  obtain ⟨f, fd, hm, F, hb⟩ := T.d_order_matters
  have G_run_after : OkD P w K mg base CX0 7 "run_after" P_run_after (sp_run_after P w ad) := ok_run_after T
  refine ⟨f, fd, hm, F.kp, hb, F.ok sc_order_matters (fun vs H Q E h => ?_) (fun cdv A outer s H vs Q E hr h => ⟨_, (pss_one (ps_ret (pe_cmpR (op_neD hr.units) (pe_callD (G_run_after) (hr.mono (by decide)) pass0 (pa_cons (pv 1) (pa_cons (pv 0) (pa_cons (pv 2) pa_nil)))) (pe_callD (G_run_after) (hr.mono (by decide)) pass0 (pa_cons (pv 0) (pa_cons (pv 1) (pa_cons (pv 2) pa_nil)))) (nomark _)))), ?_⟩)⟩
  · obtain ⟨r1, r2, q, s1, s2, t, rfl, _⟩ := h
    rfl
  · obtain ⟨r1, r2, q, s1, s2, t, rfl, B, d1, c1, d2, c2, n, W, hB, w1, l1, w2, l2, hn, hq, lt, st, k⟩ := h
    refine ⟨_, rfl, _, rfl, _, rfl, r2, r1, q, t, B, d1, c1, s1, d2, c2, s2, n, rfl, W, hB, w1, l1, w2, l2, by omega, hq, lt, st, fun H1 v b1 B1 hv => ?_⟩
    have hq1 := hq.but2 b1 (W.one _ _ hB).dext (W.two _ _ hB).dext
    refine ⟨_, rfl, _, rfl, _, rfl, r1, r2, q, t, B, d2, c2, s2, d1, c1, s1, n + 200, rfl, W.swap, B1, w2, l2, w1, l1, by omega, hq1, lt, st, fun H2 v2 b2 B2 hv2 => ?_⟩
    have hv1 := hv.but2 b2.comm (W.one _ _ B1).dext (W.two _ _ B1).dext
    refine ⟨_, _, dp_opt hv1, dp_opt hv2, dopt_sh _, dopt_sh _, ?_⟩
    rw [dopt_eqv]
    exact k H2 ⟨b1.trans b2.comm, b_up W B2 (by omega)⟩
theorem sc_twice_differs : FnScope N_twice_differs P_twice_differs (defScope s_twice_differs) := ⟨rfl, rfl, rfl, by decide +kernel, rfl, by decide +kernel, by decide +kernel⟩
theorem ok_twice_differs (T : Txt K mg ad) : OkD P w K mg base CX0 8 "twice_differs" P_twice_differs (sp_judge P w ad jTwice) := by
  obtain ⟨f, fd, hm, F, hb⟩ := T.d_twice_differs
  have G_run : OkD P w K mg base CX0 6 "run" P_run (sp_run P w ad) := ok_run T
  have G_run_after : OkD P w K mg base CX0 7 "run_after" P_run_after (sp_run_after P w ad) := ok_run_after T
  refine ⟨f, fd, hm, F.kp, hb, F.ok sc_twice_differs (fun vs H Q E h => ?_) (fun cdv A outer s H vs Q E hr h => ⟨_, (pss_one (ps_ret (pe_cmpR (op_neD hr.units) (pe_callD (G_run_after) (hr.mono (by decide)) pass0 (pa_cons (pv 0) (pa_cons (pv 0) (pa_cons (pv 2) pa_nil)))) (pe_callD (G_run) (hr.mono (by decide)) pass0 (pa_cons (pv 0) (pa_cons (pv 2) pa_nil))) (nomark _)))), ?_⟩)⟩
  · obtain ⟨r1, r2, q, s1, s2, t, rfl, _⟩ := h
    rfl
  · obtain ⟨r1, r2, q, s1, s2, t, rfl, B, d1, c1, d2, c2, n, W, hB, w1, l1, w2, l2, hn, hq, lt, st, k⟩ := h
    have R0 := W.one _ _ hB
    refine ⟨_, rfl, _, rfl, _, rfl, r1, r1, q, t, (fun H n => RunAt P w ad H r1 d1 c1 s1 n), d1, c1, s1, d1, c1, s1, n, rfl, two_one, R0, w1, l1, w1, l1, by omega, hq, lt, st, fun H1 v b1 R1 hv => ?_⟩
    have hq1 := hq.but2 b1 R0.dext R0.dext
    have B1 := W.stepA _ _ _ _ hB b1.one R1 (by omega)
    refine ⟨_, rfl, _, rfl, r1, q, t, d1, c1, s1, n + 200, rfl, R1, w1, l1, by omega, hq1, lt, st, fun H2 v2 b2 R2 hv2 _ => ?_⟩
    have B2 := W.stepA _ _ _ _ B1 b2 R2 (by omega)
    have hv1 := hv.but2 (d2 := d1) b2.two1 R1.dext R1.dext
    refine ⟨_, _, dp_opt hv1, dp_opt hv2, dopt_sh _, dopt_sh _, ?_⟩
    rw [dopt_eqv]
    exact k H2 ⟨(b1.one.trans b2).two1, b_up W B2 (by omega)⟩
theorem sc_stands_against : FnScope N_stands_against P_stands_against (defScope s_stands_against) := ⟨rfl, rfl, rfl, by decide +kernel, rfl, by decide +kernel, by decide +kernel⟩
def sp_stands_against (P : Program) (w : World) (ad : Ad) : Sp := fun vs H Q _ => ∃ (c : Int) (r1 r2 q : PySem.Addr) (s1 s2 : Script) (t : List Line), vs = [.int c, .ref r1, .ref r2, .ref q] ∧ JuAt P w ad H r1 r2 q s1 s2 t fun G => ∀ H', G H' → Q (.bl (judge c s1 s2 t)) H'
theorem ok_stands_against (T : Txt K mg ad) : OkD P w K mg base CX0 9 "stands_against" P_stands_against (sp_stands_against P w ad) := by
  obtain ⟨f, fd, hm, F, hb⟩ := T.d_stands_against
  have G_apart_for : OkD P w K mg base CX0 7 "apart_for" P_apart_for (sp_judge P w ad jApart) := ok_apart_for T
  have G_undone_fails : OkD P w K mg base CX0 8 "undone_fails" P_undone_fails (sp_judge P w ad jUndone) := ok_undone_fails T
  have G_order_matters : OkD P w K mg base CX0 8 "order_matters" P_order_matters (sp_judge P w ad jOrder) := ok_order_matters T
  have G_twice_differs : OkD P w K mg base CX0 8 "twice_differs" P_twice_differs (sp_judge P w ad jTwice) := ok_twice_differs T
  refine ⟨f, fd, hm, F.kp, hb, F.ok sc_stands_against (fun vs H Q E h => ?_) (fun cdv A outer s H vs Q E hr h => ⟨_, (pss_cons (ps_if (pt_cmpR op_eq (pv 0) pe_int (nomark _))
     (pss_one (ps_ret (pe_callD (G_apart_for) (hr.mono (by decide)) pass0 (pa_cons (pv 1) (pa_cons (pv 2) (pa_cons (pv 3) pa_nil))))))
     pss_nil)
     (pss_cons (ps_if (pt_cmpR op_eq (pv 0) pe_int (nomark _))
     (pss_one (ps_ret (pe_callD (G_undone_fails) (hr.mono (by decide)) pass0 (pa_cons (pv 1) (pa_cons (pv 2) (pa_cons (pv 3) pa_nil))))))
     pss_nil)
     (pss_cons (ps_if (pt_cmpR op_eq (pv 0) pe_int (nomark _))
     (pss_one (ps_ret (pe_callD (G_order_matters) (hr.mono (by decide)) pass0 (pa_cons (pv 1) (pa_cons (pv 2) (pa_cons (pv 3) pa_nil))))))
     pss_nil)
     (pss_one (ps_ret (pe_callD (G_twice_differs) (hr.mono (by decide)) pass0 (pa_cons (pv 1) (pa_cons (pv 2) (pa_cons (pv 3) pa_nil))))))))), ?_⟩)⟩
  · obtain ⟨c, r1, r2, q, s1, s2, t, rfl, _⟩ := h
    rfl
  · obtain ⟨c, r1, r2, q, s1, s2, t, rfl, h⟩ := h
    unfold judge at h
    refine ⟨_, rfl, rfl, _, rfl, ifP (fun e => ?_) (fun e => ?_)⟩
    · rw [if_pos (vi_eq.mp e)] at h
      exact ⟨_, rfl, _, rfl, _, rfl, r1, r2, q, s1, s2, t, rfl, h⟩
    rw [if_neg fun z => e (vi_eq.mpr z)] at h
    refine ⟨_, rfl, rfl, _, rfl, ifP (fun e => ?_) (fun e => ?_)⟩
    · rw [if_pos (vi_eq.mp e)] at h
      exact ⟨_, rfl, _, rfl, _, rfl, r1, r2, q, s1, s2, t, rfl, h⟩
    rw [if_neg fun z => e (vi_eq.mpr z)] at h
    refine ⟨_, rfl, rfl, _, rfl, ifP (fun e => ?_) (fun e => ?_)⟩
    · rw [if_pos (vi_eq.mp e)] at h
      exact ⟨_, rfl, _, rfl, _, rfl, r1, r2, q, s1, s2, t, rfl, h⟩
    rw [if_neg fun z => e (vi_eq.mpr z)] at h
    exact ⟨_, rfl, _, rfl, _, rfl, r1, r2, q, s1, s2, t, rfl, h⟩
theorem sc_look_through : FnScope N_look_through P_look_through (defScope s_look_through) := ⟨rfl, rfl, rfl, by decide +kernel, rfl, by decide +kernel, by decide +kernel⟩
def sp_look_through (ad : Ad) : Sp := fun vs H Q _ => ∃ (c : Int) (a b : PySem.Addr) (s u : Script) (m : Int), vs = [.int c, .ref a, .ref b, .int m] ∧ CmdsAt ad H a s ∧ CmdsAt ad H b u ∧ s.length ≤ 16 ∧ u.length ≤ 16 ∧ Rn.Wf s ∧ Rn.Wf u ∧ Rn.Few (s ++ u) ∧ ∀ H' p, Same H H' → H p = none → RowL H' p (lookR c s u (decide (m = 2))) → Q (.ref p) H'
theorem ok_look_through (T : Txt K mg ad) : OkD P w K mg base CX0 10 "look_through" P_look_through (sp_look_through ad) := by
  obtain ⟨f, fd, hm, F, hb⟩ := T.d_look_through
  have G_looked_at : OkD P w K mg base CX0 8 "looked_at" P_looked_at (sp_looked_at ad) := ok_looked_at T
  have G_Runner : OkI P w K mg base CX0 1 ad.cRunner "Runner" P_Runner_init (sp_Runner_init P w ad) := ok_Runner_init T
  have G_stands_against : OkD P w K mg base CX0 9 "stands_against" P_stands_against (sp_stands_against P w ad) := ok_stands_against T
  have G_text_numbers : OkD P w K mg base CX0 1 "text_numbers" P_text_numbers sp_text_numbers := ok_text_numbers T
  refine ⟨f, fd, hm, F.kp, hb, F.ok sc_look_through (fun vs H Q E h => ?_) (fun cdv A outer s H vs Q E hr h => ⟨_, (pss_cons (ps_set (i := 4) sc_look_through.nd rfl (Or.inl rfl) (pe_makeD (G_Runner) (hr.mono (by decide)) pass0 (pa_cons (pv 1) pa_nil)))
     (pss_cons (ps_set (i := 5) sc_look_through.nd rfl (Or.inl rfl) (pe_makeD (G_Runner) (hr.mono (by decide)) pass0 (pa_cons (pv 2) pa_nil)))
     (pss_cons (ps_for PassesOwn.never rfl (pi_list (pe_callD (G_looked_at) (hr.mono (by decide)) pass0 (pa_cons (pe_op op_cat (pv 1) (pv 2)) (pa_cons (pv 3) pa_nil)))) (pg_name (i := 6) sc_look_through.nd rfl (Or.inl rfl))
     (pss_one (ps_if (pt_val (pe_callD (G_stands_against) (hr.mono (by decide)) pass0 (pa_cons (pv 0) (pa_cons (pv 4) (pa_cons (pv 5) (pa_cons (pv 6) pa_nil))))))
     (pss_one (ps_ret (pe_op op_cat (pe_lst (pa_cons pe_int pa_nil)) (pe_callD (G_text_numbers) (hr.mono (by decide)) pass0 (pa_cons (pv 6) pa_nil)))))
     pss_nil)))
     (pss_one (ps_ret (pe_lst (pa_cons pe_int pa_nil))))))), ?_⟩)⟩
  · obtain ⟨c, a, b, s, u, m, rfl, _⟩ := h
    rfl
  · obtain ⟨c, a, b, s, u, m, rfl, hA, hB, ls, lu, ws, wu, fw, k⟩ := h
    have wsu : Rn.Wf (s ++ u) := fun c hc => (List.mem_append.mp hc).elim (ws c) (wu c)
    have lsu : (s ++ u).length ≤ 32 := by rw [List.length_append]; omega
    refine ⟨_, rfl, fun x dx nx ndx nex => ?_⟩
    have sx : Same H (upd (upd H dx (.own x)) x (.ins ad.cRunner dx [])) := mk_same nx ndx fun _ _ _ h => h
    refine ⟨x, dx, a, s, rfl, upd_same, hA.same sx, fun H2 d1 b2 nd1 R1 => ⟨rfl, ?_⟩⟩
    have s2 : Same H H2 := mk_same nx ndx b2
    refine ⟨_, rfl, fun y dy ny ndy ney => ?_⟩
    have sy : Same H2 (upd (upd H2 dy (.own y)) y (.ins ad.cRunner dy [])) := mk_same ny ndy fun _ _ _ h => h
    refine ⟨y, dy, b, u, rfl, upd_same, (hB.same s2).same sy, fun H3 d2 b3 nd2 R2 => ⟨rfl, ?_⟩⟩
    obtain ⟨t3, nd10, nd20, W, hBo⟩ := runs_two nx ndx b2 nd1 R1 ny ndy b3 nd2 R2
    obtain ⟨xs, eA, rA⟩ := hA.same t3
    obtain ⟨ys, eB, rB⟩ := hB.same t3
    have lxs := Paired.length rA
    have lys := Paired.length rB
    refine ⟨_, rfl, _, rfl, a, b, _, _, rfl, rfl, eA, eB, small (by rw [List.length_map, List.length_map]; omega), fun p0 n0 => ?_⟩
    have s0 := Same.new (o := .lst (xs.map V.ref ++ ys.map V.ref)) n0
    refine ⟨_, rfl, p0, s ++ u, m, rfl, cmds_app s0 (hA.same t3) (hB.same t3) eA eB upd_same, lsu, wsu, fw, fun H4 l s4 nl hl => ?_⟩
    have s04 := s0.trans s4
    have t4 := t3.trans s04
    replace hBo := W.new _ _ _ hBo s04
    obtain ⟨zs, hZ, rZ⟩ := id hl
    have lzs := Paired.length rZ
    have tlen := texts_len fw lsu (decide (m = 2))
    have tsh := texts_short wsu fw (decide (m = 2))
    have x1 := (W.one _ _ hBo).dext
    have x2 := (W.two _ _ hBo).dext
    have nl1 : l ≠ d1 := fun z => by obtain ⟨_, e⟩ := x1; rw [z, e] at hZ; cases hZ
    have nl2 : l ≠ d2 := fun z => by obtain ⟨_, e⟩ := x2; rw [z, e] at hZ; cases hZ
    have sm : ∀ H', But2 d1 d2 H4 H' → Same H H' := fun H' b c o h => b c o (ne_of_none h nd10) (ne_of_none h nd20) (t4 c o h)
    refine ⟨l, rfl, ⟨_, SqL.of hZ⟩, for_list (K := K) (a := l) (xs := zs.map V.ref) (fun i σ H' => ∃ v6, σ = [some (.int c), some (.ref a), some (.ref b), some (.int m), some (.ref x), some (.ref y), v6] ∧ But2 d1 d2 H4 H' ∧ Both P w ad x d1 a s y d2 b u H' (400 * i) ∧ ∀ t ∈ (textsP (s ++ u) (decide (m = 2))).take i, judge c s u t = false)
      ⟨none, rfl, But2.of (Same.refl H4), hBo, fun p hp => by simp at hp⟩ (fun i σ H' _ ⟨_, _, b, _⟩ => SqL.of (b _ _ nl1 nl2 hZ)) ?_ ?_⟩
    · rintro i v σ H' hi ⟨v6, rfl, b5, B5, inv⟩
      obtain ⟨g, hg, rfl⟩ := map_ref_at hi
      obtain ⟨t, ht, eg⟩ := paired_get rZ hg
      have ilt := (List.getElem?_eq_some_iff.mp ht).1
      have hq5 := eg.1.but2 b5 x1 x2
      have sht := tsh t (List.mem_of_getElem? ht)
      refine ⟨_, rfl, _, rfl, _, rfl, _, rfl, c, x, y, g, s, u, t, rfl, _, d1, a, d2, b, 400 * i, W, B5, ws, by omega, wu, by omega, by omega, hq5, by omega, fun z hz => Nat.le_trans (sht.2 z hz) (by decide), fun H6 ⟨b6, B6⟩ => ⟨_, rfl, ?_⟩⟩
      have b56 := b5.trans b6
      refine ifB (fun e => ?_) (fun e => ?_)
      · have hR : lookR c s u (decide (m = 2)) = 0 :: textN t := by
          unfold lookR
          rw [find_take inv, Lx.drop_at' ht, List.find?_cons, e]
        rw [hR] at k
        have hq6 := hq5.but2 b6 (W.one _ _ B5).dext (W.two _ _ B5).dext
        refine ⟨by show 1 ≤ sizeLine; decide, fun l1 n1 => ?_⟩
        have s7 := Same.new (o := .lst [V.int 0]) n1
        refine ⟨_, rfl, g, t, rfl, hq6.same s7, by omega, fun z hz => Nat.le_trans (sht.2 z hz) (by decide), fun H8 l2 s8 n2 hl2 => ?_⟩
        have sl := show_len t fun z hz => Nat.le_trans (sht.2 z hz) (by decide)
        refine ⟨l1, l2, _, _, rfl, rfl, s8 _ _ upd_same, hl2, small (by rw [List.length_map, textN_len]; show 1 + _ ≤ _; omega), fun p np => ?_⟩
        have t8 := (sm _ b56).trans (s7.trans s8)
        exact k _ p (t8.trans (Same.new np)) (t8.free np) (upd_same.trans rfl)
      · refine ⟨_, rfl, b56, ?_, fun p hp => ?_⟩
        · rw [Nat.mul_succ]
          exact B6
        · rw [take_snoc ht, List.mem_append, List.mem_singleton] at hp
          rcases hp with h | h
          · exact inv p h
          · rw [h]; exact e
    · rintro σ H' ⟨v6, rfl, b5, B5, inv⟩
      rw [List.length_map, lzs, List.take_length] at inv
      have hR : lookR c s u (decide (m = 2)) = [1] := by
        unfold lookR
        rw [List.find?_eq_none.mpr fun t ht => by rw [inv t ht]; exact Bool.false_ne_true]
      rw [hR] at k
      refine ⟨by show 1 ≤ sizeLine; decide, fun p np => ?_⟩
      exact k _ p ((sm _ b5).trans (Same.new np)) ((sm _ b5).free np) upd_same
end
end Lw

/-! judging: same, looks -/
namespace Lw
open PySem PySem.Spec PyProof.Rows L2
open VasedBase (Bytes PTok Toks)
open Vaseda (Deed Cmd Script Line)

/-- the lines looked at for same, as the program has them -/
def sameL (s : Script) : List Line := (varsP s).foldl Rn.add (kindsP s)
theorem sameL_len (s : Script) : (sameL s).length ≤ 2 * (kindsP s).length := by
  have : ∀ (m l : List Line), (m.foldl Rn.add l).length ≤ l.length + m.length := by
    intro m
    induction m with
    | nil => intro l; exact Nat.le_refl _
    | cons x r ih =>
      intro l
      rw [List.foldl_cons]
      have := ih (Rn.add l x)
      have := add_len l x
      rw [List.length_cons]
      omega
  have q := this (varsP s) (kindsP s)
  rw [varsP, List.length_map] at q
  unfold sameL varsP
  omega
theorem sameL_short {s : Script} (wf : Rn.Wf s) (f : Rn.Few s) : ∀ x ∈ sameL s, x.length ≤ 16 := by
  intro x hx
  rcases (Rn.mem_foldAdd _ _ _).mp hx with h | h
  · exact kinds_short wf f x h
  · obtain ⟨y, hy, rfl⟩ := List.mem_map.mp h
    exact var1_len s y (kinds_short wf f y hy)
/-- the first later one like the one at i -/
def likeAt (rs : List (Option (List Line))) (i : Nat) (o : Option (List Line)) : Nat → Prop := fun j => Fst (fun z => decide (z = o)) (rs.drop (i + 1)) j
def sameR (s u : Script) : List Int := match (sameL (s ++ u)).zipIdx.findSome? (fun x => (((sameL (s ++ u)).drop (x.2 + 1)).find? fun y => decide (Rn.runP s [y] = Rn.runP s [x.1])).map fun y => (x.1, y)) with
  | none => [1]
  | some x => 0 :: (lineN x.1 ++ lineN x.2)
def looksR (s u : Script) (two : Bool) : List Int := if two = true then [((kindsP (s ++ u)).length + (kindsP (s ++ u)).length * (kindsP (s ++ u)).length : Nat), ((kindsP (s ++ u)).length : Nat)] else [((kindsP (s ++ u)).length : Nat), ((kindsP (s ++ u)).length : Nat)]
theorem findSome_at {α β : Type} {g : α → Option β} {l : List α} {i : Nat} {a : α} (h : ∀ x ∈ l.take i, g x = none) (ha : l[i]? = some a) {b : β} (hb : g a = some b) : l.findSome? g = some b := by
  rw [show l = l.take i ++ l.drop i from (List.take_append_drop i l).symm, List.findSome?_append]
  rw [List.findSome?_eq_none_iff.mpr h, Lx.drop_at' ha, List.findSome?_cons, hb]
  rfl
theorem Fst.unmap {α β : Type} {f : α → β} {q : β → Bool} {l : List α} {j : Nat} (h : Fst q (l.map f) j) : Fst (fun y => q (f y)) l j where
  le := by have := h.le; rw [List.length_map] at this; exact this
  no := fun x hx => h.no (f x) (by rw [← List.map_take]; exact List.mem_map.mpr ⟨x, hx, rfl⟩)
  yes := fun x hx => h.yes (f x) (by rw [List.getElem?_map, hx]; rfl)
theorem r64 {n : Nat} (h : n ≤ 100000) : -(2 ^ 64) < (n : Int) ∧ (n : Int) < 2 ^ 64 := by
  have e : (2 : Int) ^ 64 = 18446744073709551616 := by decide
  rw [e]
  omega
theorem OptAt.butD {D : PySem.Addr} {H H' : Hp} {v : V} {o : Option (List Line)} (h : OptAt H v o) (A : Apart H D) (b : But D H H') (ne : v ≠ .ref D) : OptAt H' v o := by
  cases o with
  | none => cases v <;> first | exact h | exact trivial
  | some l =>
    cases v <;> first | exact h | exact LinesL.but A b (fun z => ne (by rw [z])) h
/-- results lie at p -/
def ResL (H : Hp) (p : PySem.Addr) (rs : List (Option (List Line))) : Prop := ∃ vs, H p = some (.lst vs) ∧ Paired (fun v o => OptAt H v o ∧ v ≠ .ref p) vs rs
section
variable {P : Program} {w : World} {K : PySem.W.Frag} {mg : Str → Option Value} {base : Heap} {ad : Ad}
theorem sc_lines_for_same : FnScope N_lines_for_same P_lines_for_same (defScope s_lines_for_same) := ⟨rfl, rfl, rfl, by decide +kernel, rfl, by decide +kernel, by decide +kernel⟩
def sp_lines_for_same (ad : Ad) : Sp := fun vs H Q _ => ∃ (c : PySem.Addr) (s : Script), vs = [.ref c] ∧ CmdsAt ad H c s ∧ s.length ≤ 32 ∧ Rn.Wf s ∧ Rn.Few s ∧ ∀ H' p, Same H H' → H p = none → LinesL H' p (sameL s) → Q (.ref p) H'
theorem ok_lines_for_same (T : Txt K mg ad) : OkD P w K mg base CX0 8 "lines_for_same" P_lines_for_same (sp_lines_for_same ad) := by
  obtain ⟨f, fd, hm, F, hb⟩ := T.d_lines_for_same
  have G_kinds_of : OkD P w K mg base CX0 7 "kinds_of" P_kinds_of (sp_kinds_of ad) := ok_kinds_of T
  have G_variants_of : OkD P w K mg base CX0 3 "variants_of" P_variants_of (sp_variants_of ad) := ok_variants_of T
  refine ⟨f, fd, hm, F.kp, hb, F.ok sc_lines_for_same (fun vs H Q E h => ?_) (fun cdv A outer s H vs Q E hr h => ⟨_, (pss_cons (ps_set (i := 1) sc_lines_for_same.nd rfl (Or.inl rfl) (pe_callD (G_kinds_of) (hr.mono (by decide)) pass0 (pa_cons (pv 0) pa_nil)))
     (pss_cons (ps_set (i := 2) sc_lines_for_same.nd rfl (Or.inl rfl) (pe_callTy call_list_of (by rfl) T.n_list (by decide +kernel) (pa_cons (pv 1) pa_nil)))
     (pss_cons (ps_for PassesOwn.never rfl (pi_list (pe_callD (G_variants_of) (hr.mono (by decide)) pass0 (pa_cons (pv 0) (pa_cons (pv 1) pa_nil)))) (pg_name (i := 3) sc_lines_for_same.nd rfl (Or.inl rfl))
     (pss_one (ps_if (pt_cmpR (op_notInD (hu65 hr)) (pv 3) (pv 2) (by rfl))
     (pss_one (ps_expr (pe_bm PySem.F.plainAttrs_list PySem.F.slot_list_append PySem.F.type_list_append mt_append (pv 2) (pa_cons (pv 3) pa_nil))))
     pss_nil)))
     (pss_one (ps_ret (pv 2)))))), ?_⟩)⟩
  · obtain ⟨c, s, rfl, _⟩ := h
    rfl
  · obtain ⟨c, s, rfl, hC, l32, wf, fw, k⟩ := h
    have klen := kinds_len fw
    refine ⟨_, rfl, c, s, rfl, hC, l32, wf, fw, fun H1 q s1 nq hq => ?_⟩
    obtain ⟨as, hL, rL⟩ := id hq
    refine ⟨_, rfl, q, _, rfl, SqLo hL, fun o no => ?_⟩
    have s2 := Same.new (o := .lst (as.map V.ref)) no
    have no0 := s1.free no
    have ho2 : LinesL (upd H1 o (.lst (as.map V.ref))) o (kindsP s) := ⟨as, upd_same, rL.same s2⟩
    generalize upd H1 o (.lst (as.map V.ref)) = H2 at *
    have t2 := s1.trans s2
    refine ⟨_, rfl, _, rfl, c, q, s, rfl, hC.same t2, l32, wf, fw, hq.same s2, fun H3 v s3 nv hv => ?_⟩
    obtain ⟨bs, hV, rV⟩ := id hv
    have lbs := rV.length
    have lvs : (varsP s).length = (kindsP s).length := List.length_map ..
    have nvo : v ≠ o := fun z => by
      obtain ⟨_, e, _⟩ := ho2
      rw [z, e] at nv
      cases nv
    refine ⟨v, rfl, ⟨_, SqL.of hV⟩, for_list (K := K) (a := v) (xs := bs.map V.ref) (fun i σ H' => ∃ v3, σ = [some (.ref c), some (.ref q), some (.ref o), v3] ∧ Same H H' ∧ H' v = some (.lst (bs.map V.ref)) ∧ LinesR H' bs (varsP s) ∧ LinesL H' o (((varsP s).take i).foldl Rn.add (kindsP s)) ∧ (((varsP s).take i).foldl Rn.add (kindsP s)).length ≤ (kindsP s).length + i)
      ⟨none, rfl, t2.trans s3, hV, rV, ho2.same s3, Nat.le_refl _⟩ (fun i σ H' _ ⟨_, _, _, z, _⟩ => SqL.of z) ?_ ?_⟩
    · rintro i w0 σ H' hi ⟨v3, rfl, s4, hV4, rV4, ho4, ln⟩
      obtain ⟨p, hp, rfl⟩ := map_ref_at hi
      obtain ⟨x, hx, ex⟩ := paired_get rV4 hp
      have ilt := (List.getElem?_eq_some_iff.mp hx).1
      obtain ⟨os, hO, rO⟩ := id ho4
      have los := rO.length
      have step : ((varsP s).take (i + 1)).foldl Rn.add (kindsP s) = Rn.add (((varsP s).take i).foldl Rn.add (kindsP s)) x := by rw [take_snoc hx, List.foldl_append]; rfl
      have al := add_len (((varsP s).take i).foldl Rn.add (kindsP s)) x
      rw [step]
      refine ⟨_, rfl, _, rfl, dl x, _, dp_line ex, dp_linesL ho4, dl_sh _, dls_shL _, _, rfl, ?_⟩
      rw [any_eqv]
      refine ifB (fun c2 => ?_) (fun c2 => ?_)
      · have c2' : (((varsP s).take i).foldl Rn.add (kindsP s)).contains x = false := by simpa using c2
        refine ⟨_, rfl, tyL hO, _, rfl, o, _, _, rfl, rfl, hO, by rw [List.length_map]; exact smallL (by omega), ?_⟩
        have Al := Apart.lst hO
        have bu := But.upd (d := o) (H := H') (o := .lst (os.map V.ref ++ [.ref p]))
        refine ⟨_, rfl, Same.mut s4 no0, bu _ _ nvo hV4, rV4.but Al bu, ⟨os ++ [p], upd_same.trans (by rw [List.map_append]; rfl), ?_⟩, by omega⟩
        rw [show Rn.add (((varsP s).take i).foldl Rn.add (kindsP s)) x = ((varsP s).take i).foldl Rn.add (kindsP s) ++ [x] from if_neg (by rw [c2']; exact Bool.false_ne_true)]
        exact (rO.but Al bu).snoc (Al.line bu ex)
      · have c2' : (((varsP s).take i).foldl Rn.add (kindsP s)).contains x = true := by simpa using c2
        refine ⟨_, rfl, s4, hV4, rV4, ?_, by omega⟩
        rw [show Rn.add (((varsP s).take i).foldl Rn.add (kindsP s)) x = ((varsP s).take i).foldl Rn.add (kindsP s) from if_pos c2']
        exact ho4
    · rintro σ H' ⟨v3, rfl, s4, hV4, rV4, ho4, ln⟩
      rw [List.length_map, lbs, List.take_length] at ho4
      exact ⟨_, rfl, k H' o s4 no0 ho4⟩
theorem sc_looks : FnScope N_looks P_looks (defScope s_looks) := ⟨rfl, rfl, rfl, by decide +kernel, rfl, by decide +kernel, by decide +kernel⟩
def sp_looks (ad : Ad) : Sp := fun vs H Q _ => ∃ (a b : PySem.Addr) (s u : Script) (m : Int), vs = [.ref a, .ref b, .int m] ∧ CmdsAt ad H a s ∧ CmdsAt ad H b u ∧ s.length ≤ 16 ∧ u.length ≤ 16 ∧ Rn.Wf s ∧ Rn.Wf u ∧ Rn.Few (s ++ u) ∧ ∀ H' p, Same H H' → H p = none → RowL H' p (looksR s u (decide (m = 2))) → Q (.ref p) H'
theorem ok_looks (T : Txt K mg ad) : OkD P w K mg base CX0 8 "looks" P_looks (sp_looks ad) := by
  obtain ⟨f, fd, hm, F, hb⟩ := T.d_looks
  have G_kinds_of : OkD P w K mg base CX0 7 "kinds_of" P_kinds_of (sp_kinds_of ad) := ok_kinds_of T
  refine ⟨f, fd, hm, F.kp, hb, F.ok sc_looks (fun vs H Q E h => ?_) (fun cdv A outer s H vs Q E hr h => ⟨_, (pss_cons (ps_set (i := 3) sc_looks.nd rfl (Or.inl rfl) (pe_callB call_len_seq (by rfl) T.n_len PySem.boot_len (pa_cons (pe_callD (G_kinds_of) (hr.mono (by decide)) pass0 (pa_cons (pe_op op_cat (pv 0) (pv 1)) pa_nil)) pa_nil)))
     (pss_cons (ps_if (pt_cmpR op_eq (pv 2) pe_int (nomark _))
     (pss_one (ps_ret (pe_lst (pa_cons (pe_op op_add (pv 3) (pe_op op_mul (pv 3) (pv 3))) (pa_cons (pv 3) pa_nil)))))
     pss_nil)
     (pss_one (ps_ret (pe_lst (pa_cons (pv 3) (pa_cons (pv 3) pa_nil))))))), ?_⟩)⟩
  · obtain ⟨a, b, s, u, m, rfl, _⟩ := h
    rfl
  · obtain ⟨a, b, s, u, m, rfl, hA, hB, ls, lu, ws, wu, fw, k⟩ := h
    have wsu : Rn.Wf (s ++ u) := fun c hc => (List.mem_append.mp hc).elim (ws c) (wu c)
    have lsu : (s ++ u).length ≤ 32 := by rw [List.length_append]; omega
    obtain ⟨xs, eA, rA⟩ := id hA
    obtain ⟨ys, eB, rB⟩ := id hB
    have lxs := Paired.length rA
    have lys := Paired.length rB
    refine ⟨_, rfl, _, rfl, a, b, _, _, rfl, rfl, eA, eB, small (by rw [List.length_map, List.length_map]; omega), fun p0 n0 => ?_⟩
    have s0 := Same.new (o := .lst (xs.map V.ref ++ ys.map V.ref)) n0
    refine ⟨p0, s ++ u, rfl, cmds_app s0 hA hB eA eB upd_same, lsu, wsu, fw, fun H1 q s1 nq hq => ?_⟩
    have t1 := s0.trans s1
    obtain ⟨as, hL, rL⟩ := id hq
    have las := rL.length
    refine ⟨q, _, rfl, SqLo hL, ?_⟩
    rw [List.length_map, las]
    have klen := kinds_len fw
    refine ⟨_, rfl, rfl, _, rfl, ifP (fun e => ?_) (fun e => ?_)⟩
    · rw [decide_eq_true (vi_eq.mp e)] at k
      refine ⟨_, rfl, _, rfl, _, rfl, _, _, rfl, rfl, .inl (r64 (by omega)), _, _, rfl, rfl, _, rfl, by show 2 ≤ sizeLine; decide, fun p np => ?_⟩
      refine k _ p (t1.trans (Same.new np)) (t1.free np) (upd_same.trans ?_)
      unfold looksR
      rw [if_pos rfl, Int.natCast_add, Int.natCast_mul]
      rfl
    · rw [decide_eq_false (fun z => e (vi_eq.mpr z))] at k
      refine ⟨_, rfl, _, rfl, by show 2 ≤ sizeLine; decide, fun p np => ?_⟩
      exact k _ p (t1.trans (Same.new np)) (t1.free np) upd_same
theorem sc_later_like : FnScope N_later_like P_later_like (defScope s_later_like) := ⟨rfl, rfl, rfl, by decide +kernel, rfl, by decide +kernel, by decide +kernel⟩
def sp_later_like : Sp := fun vs H Q _ => ∃ (p : PySem.Addr) (i : Nat) (rs : List (Option (List Line))) (o : Option (List Line)), vs = [.ref p, .int (i : Int)] ∧ ResL H p rs ∧ rs.length ≤ 1000 ∧ rs[i]? = some o ∧ ∀ j : Nat, Fst (fun z => decide (z = o)) (rs.drop (i + 1)) j → Q (.int ((i + 1 + j : Nat) : Int)) H
theorem ok_later_like (T : Txt K mg ad) : OkD P w K mg base CX0 1 "later_like" P_later_like sp_later_like := by
  obtain ⟨f, fd, hm, F, hb⟩ := T.d_later_like
  refine ⟨f, fd, hm, F.kp, hb, F.ok sc_later_like (fun vs H Q E h => ?_) (fun cdv A outer s H vs Q E hr h => ⟨_, (pss_cons (ps_for PassesOwn.never rfl (pi_range2 rfl T.n_range (pa_cons (pe_op op_add (pv 1) pe_int) (pa_cons (pe_callB call_len_seq (by rfl) T.n_len PySem.boot_len (pa_cons (pv 0) pa_nil)) pa_nil))) (pg_name (i := 2) sc_later_like.nd rfl (Or.inl rfl))
     (pss_one (ps_if (pt_cmpR (op_eqD hr.units) (pe_ix ix_list (pv 0) (pv 2) (fun _ _ => rfl)) (pe_ix ix_list (pv 0) (pv 1) (fun _ _ => rfl)) (nomark _))
     (pss_one (ps_ret (pv 2)))
     pss_nil)))
     (pss_one (ps_ret (pe_callB call_len_seq (by rfl) T.n_len PySem.boot_len (pa_cons (pv 0) pa_nil))))), ?_⟩)⟩
  · obtain ⟨p, i, rs, o, rfl, _⟩ := h
    rfl
  · obtain ⟨p, i, rs, o, rfl, ⟨us, hL, rL⟩, lr, ho, k⟩ := h
    have lus := Paired.length rL
    have hi := (List.getElem?_eq_some_iff.mp ho).1
    obtain ⟨vo, hvo, evo⟩ := paired_get' rL ho
    have en : ((us.length : Int) - ((i : Int) + 1)).toNat = (rs.drop (i + 1)).length := by rw [List.length_drop]; omega
    refine ⟨_, rfl, _, _, rfl, rfl, _, rfl, p, _, rfl, SqLo hL, _, _, rfl, ⟨(r62i (by omega) (by omega)).1, (r62i (by omega) (by omega)).2, (r62 (by omega)).1, (r62 (by omega)).2⟩, for_range (fun j σ H' => H' = H ∧ (∃ v, σ = [some (.ref p), some (.int (i : Int)), v]) ∧ ∀ z ∈ (rs.drop (i + 1)).take j, decide (z = o) = false) ⟨rfl, ⟨none, rfl⟩, fun z hz => by simp at hz⟩ ?_ ?_⟩
    · rintro j σ H' hj ⟨rfl, ⟨v, rfl⟩, inv⟩
      rw [en] at hj
      have hz : (rs.drop (i + 1))[j]? = some (rs.drop (i + 1))[j] := List.getElem?_eq_getElem hj
      have hz' : rs[i + 1 + j]? = some (rs.drop (i + 1))[j] := by rw [← hz, List.getElem?_drop]
      obtain ⟨vz, hvz, evz⟩ := paired_get' rL hz'
      rw [show (i : Int) + 1 + (j : Int) = ((i + 1 + j : Nat) : Int) from by omega]
      refine ⟨_, rfl, _, rfl, p, _, _, vz, rfl, rfl, SqL.of hL, atI_nat hvz, _, rfl, _, rfl, p, _, _, vo, rfl, rfl, SqL.of hL, atI_nat hvo, _, _, dp_opt evz.1, dp_opt evo.1, dopt_sh _, dopt_sh _, _, rfl, ?_⟩
      rw [dopt_eqv]
      refine ifB (fun e => ?_) (fun e => ?_)
      · refine ⟨_, rfl, k j ⟨Nat.le_of_lt hj, inv, fun z hzz => ?_⟩⟩
        rw [hz] at hzz
        rw [← Option.some.inj hzz]
        exact e
      · refine ⟨rfl, ⟨_, rfl⟩, fun z hzz => ?_⟩
        rw [take_snoc hz, List.mem_append, List.mem_singleton] at hzz
        rcases hzz with h | h
        · exact inv z h
        · rw [h]; exact e
    · rintro σ H' ⟨rfl, ⟨v, rfl⟩, inv⟩
      rw [en] at inv
      refine ⟨_, rfl, p, _, rfl, SqLo hL, ?_⟩
      have q := k (rs.drop (i + 1)).length ⟨Nat.le_refl _, inv, fun z hz => by rw [List.getElem?_eq_none (Nat.le_refl _)] at hz; cases hz⟩
      rw [show ((i + 1 + (rs.drop (i + 1)).length : Nat) : Int) = (us.length : Int) from by rw [List.length_drop]; omega] at q
      exact q
theorem sc_same : FnScope N_same P_same (defScope s_same) := ⟨rfl, rfl, rfl, by decide +kernel, rfl, by decide +kernel, by decide +kernel⟩
def sp_same (ad : Ad) : Sp := fun vs H Q _ => ∃ (a b : PySem.Addr) (s u : Script), vs = [.ref a, .ref b] ∧ CmdsAt ad H a s ∧ CmdsAt ad H b u ∧ s.length ≤ 16 ∧ u.length ≤ 16 ∧ Rn.Wf s ∧ Rn.Wf u ∧ Rn.Few (s ++ u) ∧ ∀ H' p, Same H H' → H p = none → RowL H' p (sameR s u) → Q (.ref p) H'
theorem ok_same (T : Txt K mg ad) : OkD P w K mg base CX0 9 "same" P_same (sp_same ad) := by
  obtain ⟨f, fd, hm, F, hb⟩ := T.d_same
  have G_lines_for_same : OkD P w K mg base CX0 8 "lines_for_same" P_lines_for_same (sp_lines_for_same ad) := ok_lines_for_same T
  have G_Runner : OkI P w K mg base CX0 1 ad.cRunner "Runner" P_Runner_init (sp_Runner_init P w ad) := ok_Runner_init T
  have G_run : OkD P w K mg base CX0 6 "run" P_run (sp_run P w ad) := ok_run T
  have G_later_like : OkD P w K mg base CX0 1 "later_like" P_later_like sp_later_like := ok_later_like T
  have G_line_numbers : OkD P w K mg base CX0 1 "line_numbers" P_line_numbers sp_line_numbers := ok_line_numbers T
  refine ⟨f, fd, hm, F.kp, hb, F.ok sc_same (fun vs H Q E h => ?_) (fun cdv A outer s H vs Q E hr h => ⟨_, (pss_cons (ps_set (i := 2) sc_same.nd rfl (Or.inl rfl) (pe_callD (G_lines_for_same) (hr.mono (by decide)) pass0 (pa_cons (pe_op op_cat (pv 0) (pv 1)) pa_nil)))
     (pss_cons (ps_set (i := 3) sc_same.nd rfl (Or.inr rfl) (pe_makeD (G_Runner) (hr.mono (by decide)) pass0 (pa_cons (pv 0) pa_nil)))
     (pss_cons (ps_setLc (i := 4) (own := [("line", 7)]) (g := gName 7) rfl sc_same.nd rfl rfl (sw_true rfl rfl rfl (by decide +kernel)) (pi_list (pv 2)) (blkOk_by (own := [("line", 7)]) (N := N_same) (sc := defScope s_same) (by decide +kernel)) (fun _ _ _ _ _ => pg_name (i := 7) sc_same.nd rfl (Or.inl rfl)) (fun _ _ _ _ _ => pts_nil) (fun _ _ _ _ _ => (pe_callD (G_run) (hr.mono (by decide)) pass0 (pa_cons (pv 3) (pa_cons (pe_lst (pa_cons (pv 7) pa_nil)) pa_nil)))))
     (pss_cons (ps_for PassesOwn.never rfl (pi_range1 rfl T.n_range (pa_cons (pe_callB call_len_seq (by rfl) T.n_len PySem.boot_len (pa_cons (pv 2) pa_nil)) pa_nil)) (pg_name (i := 5) sc_same.nd rfl (Or.inl rfl))
     (pss_cons (ps_set (i := 6) sc_same.nd rfl (Or.inl rfl) (pe_callD (G_later_like) (hr.mono (by decide)) pass0 (pa_cons (pv 4) (pa_cons (pv 5) pa_nil))))
     (pss_one (ps_if (pt_cmpR op_lt (pv 6) (pe_callB call_len_seq (by rfl) T.n_len PySem.boot_len (pa_cons (pv 2) pa_nil)) (nomark _))
     (pss_one (ps_ret (pe_op op_cat (pe_op op_cat (pe_lst (pa_cons pe_int pa_nil)) (pe_callD (G_line_numbers) (hr.mono (by decide)) pass0 (pa_cons (pe_ix ix_list (pv 2) (pv 5) (fun _ _ => rfl)) pa_nil))) (pe_callD (G_line_numbers) (hr.mono (by decide)) pass0 (pa_cons (pe_ix ix_list (pv 2) (pv 6) (fun _ _ => rfl)) pa_nil)))))
     pss_nil))))
     (pss_one (ps_ret (pe_lst (pa_cons pe_int pa_nil)))))))), ?_⟩)⟩
  · obtain ⟨a, b, s, u, rfl, _⟩ := h
    rfl
  · obtain ⟨a, b, s, u, rfl, hA, hB, ls, lu, ws, wu, fw, k⟩ := h
    have wsu : Rn.Wf (s ++ u) := fun c hc => (List.mem_append.mp hc).elim (ws c) (wu c)
    have lsu : (s ++ u).length ≤ 32 := by rw [List.length_append]; omega
    obtain ⟨xs, eA, rA⟩ := id hA
    obtain ⟨ys, eB, rB⟩ := id hB
    have lxs := Paired.length rA
    have lys := Paired.length rB
    refine ⟨_, rfl, _, rfl, a, b, _, _, rfl, rfl, eA, eB, small (by rw [List.length_map, List.length_map]; omega), fun p0 n0 => ?_⟩
    have s0 := Same.new (o := .lst (xs.map V.ref ++ ys.map V.ref)) n0
    refine ⟨p0, s ++ u, rfl, cmds_app s0 hA hB eA eB upd_same, lsu, wsu, fw, fun H1 q s1 nq hq => ?_⟩
    have t1 := s0.trans s1
    refine ⟨_, rfl, fun x dx nx ndx nex => ?_⟩
    have sx : Same H1 (upd (upd H1 dx (.own x)) x (.ins ad.cRunner dx [])) := mk_same nx ndx fun _ _ _ h => h
    refine ⟨x, dx, a, s, rfl, upd_same, (hA.same t1).same sx, fun H2 d b2 nd R2 => ⟨rfl, ?_⟩⟩
    have s2 : Same H1 H2 := mk_same nx ndx b2
    have nd1 : H1 d = none := sx.free nd
    have hq2 := hq.same s2
    obtain ⟨as, hL, rL⟩ := id hq2
    have las := rL.length
    have klen := kinds_len fw
    have llen := sameL_len (s ++ u)
    have lsh := sameL_short wsu fw
    have nqd := lines_ne hq2 R2.dext
    generalize eL : sameL (s ++ u) = L at *
    have l400 : L.length ≤ 162 := by omega
    refine ⟨_, rfl, q, rfl, ⟨_, SqL.of hL⟩, fun D nD => ?_⟩
    have s3 : Same H2 (upd H2 D (.lst [])) := Same.new nD
    have nD0 : H D = none := (t1.trans s2).free nD
    have nd0 : H d = none := t1.free nd1
    have nqD : q ≠ D := ne_of_none hL nD
    obtain ⟨nxD, ndD, naD⟩ := R2.live D nD
    have Ad2 := R2.apart
    refine lc_list (K := K) (a := q) (xs := as.map V.ref) (fun i H' => But d H2 H' ∧ RunAt P w ad H' x d a s (100 * i) ∧ ResL H' D ((L.take i).map fun y => Rn.runP s [y])) ⟨But.of s3, R2.same s3, [], upd_same, .nil⟩ (fun i H' _ ⟨b, _⟩ => SqL.of (b _ _ nqd hL)) ?_ ?_
    · rintro i v0 H' hi ⟨b3, R3, us, hU, rU⟩
      obtain ⟨p, hp, rfl⟩ := map_ref_at hi
      obtain ⟨y, hy, ey⟩ := paired_get rL hp
      have ilt := (List.getElem?_eq_some_iff.mp hy).1
      have ey3 := Ad2.line b3 ey
      have lus := Paired.length rU
      rw [List.length_map, List.length_take] at lus
      refine ⟨rfl, _, rfl, _, rfl, by show 1 ≤ sizeLine; decide, fun t nt => ?_⟩
      have s4 := Same.new (o := .lst [V.ref p]) nt
      refine ⟨x, t, [y], d, a, s, 100 * i, rfl, R3.same s4, ws, by omega, by omega, ⟨[p], upd_same, .cons (s4 _ _ ey3) .nil⟩, by show 1 ≤ 100; decide, fun z hz => by rw [List.mem_singleton] at hz; rw [hz]; exact Nat.le_trans (lsh y (List.mem_of_getElem? hy)) (by decide), fun H5 v b5 R5 hv fr => ?_⟩
      have hU5 := b5 _ _ ndD.symm (s4 _ _ hU)
      have x3 := (R3.same s4).dext
      refine ⟨_, hU5, smallL (by omega), but_mut ((b3.same s4).trans b5) nD, ?_, us ++ [v], upd_same, ?_⟩
      · obtain ⟨n1, n2, n3⟩ : x ≠ D ∧ d ≠ D ∧ a ≠ D := ⟨nxD, ndD, naD⟩
        exact (R5.but (Apart.lst hU5) But.upd n1 n2 n3).mono (by omega)
      · rw [take_snoc hy, List.map_append, show ([y].map fun y => Rn.runP s [y]) = [Rn.runP s [y]] from rfl]
        have nvD : v ≠ .ref D := fun z => by
          have := fr D z
          rw [s4 _ _ hU] at this
          cases this
        have Al := Apart.lst hU5
        exact paired_app (F := fun v' o => OptAt (upd H5 D (.lst (us ++ [v]))) v' o ∧ v' ≠ .ref D) (.cons ⟨hv.butD Al But.upd nvD, nvD⟩ .nil) (Paired.mapP rU fun w o z => ⟨((z.1.same s4).but2 (d2 := d) b5.two1 x3 x3).butD Al But.upd z.2, z.2⟩)
    · rintro H3 ⟨b3, R3, hres⟩
      rw [List.length_map, las, List.take_length] at hres
      have sm : Same H H3 := fun c o h => b3 c o (ne_of_none h nd0) ((t1.trans s2) c o h)
      have hL3 := b3 _ _ nqd hL
      have rL3 := rL.but Ad2 b3
      obtain ⟨us, hU, rU⟩ := id hres
      have lus := Paired.length rU
      rw [List.length_map] at lus
      let G : Line × Nat → Option (Line × Line) := fun x => ((L.drop (x.2 + 1)).find? fun y => decide (Rn.runP s [y] = Rn.runP s [x.1])).map fun y => (x.1, y)
      have hz : ∀ i y, L[i]? = some y → L.zipIdx[i]? = some (y, i) := fun i y h => by rw [List.getElem?_zipIdx, h]; simp
      refine ⟨_, rfl, q, _, rfl, SqLo hL3, _, rfl, (r62 (by rw [List.length_map]; omega)).1, (r62 (by rw [List.length_map]; omega)).2, for_range (fun i σ H' => H' = H3 ∧ (∃ v5 v6 v7, σ = [some (.ref a), some (.ref b), some (.ref q), some (.ref x), some (.ref D), v5, v6, v7]) ∧ ∀ z ∈ L.zipIdx.take i, G z = none) ⟨rfl, ⟨none, none, none, rfl⟩, fun z hz => by simp at hz⟩ ?_ ?_⟩
      · rintro i σ H' hi ⟨rfl, ⟨v5, v6, v7, rfl⟩, inv⟩
        have hi' : i < L.length := by rw [List.length_map] at hi; omega
        obtain ⟨y, hy⟩ : ∃ y, L[i]? = some y := ⟨L[i], List.getElem?_eq_getElem hi'⟩
        rw [Int.zero_add]
        refine ⟨_, rfl, _, rfl, D, i, _, Rn.runP s [y], rfl, hres, by rw [List.length_map]; omega, by rw [List.getElem?_map, hy]; rfl, fun j fst => ?_⟩
        rw [← List.map_drop] at fst
        have fnd := fst.unmap.find
        refine ⟨_, rfl, _, rfl, q, _, rfl, SqLo hL3, _, _, rfl, rfl, _, rfl, ?_⟩
        rw [List.length_map, las]
        have jle := fst.unmap.le
        rw [List.length_drop] at jle
        refine ifP (fun e => ?_) (fun e => ?_)
        · have hj : i + 1 + j < L.length := by omega
          obtain ⟨y2, hy2⟩ : ∃ y, L[i + 1 + j]? = some y := ⟨L[i + 1 + j], List.getElem?_eq_getElem hj⟩
          have hG : G (y, i) = some (y, y2) := by
            show ((L.drop (i + 1)).find? fun z => decide (Rn.runP s [z] = Rn.runP s [y])).map (fun z => (y, z)) = _
            rw [fnd, List.getElem?_drop, hy2]
            rfl
          have hR : sameR s u = 0 :: (lineN y ++ lineN y2) := by
            unfold sameR
            rw [eL, show L.zipIdx.findSome? _ = some (y, y2) from findSome_at (g := G) inv (hz i y hy) hG]
          rw [hR] at k
          obtain ⟨pa, hpa, ea⟩ := paired_get' rL3 hy
          obtain ⟨pb, hpb, eb⟩ := paired_get' rL3 hy2
          have ly := Nat.le_trans (lsh y (List.mem_of_getElem? hy)) (show 16 ≤ 64 by decide)
          have ly2 := Nat.le_trans (lsh y2 (List.mem_of_getElem? hy2)) (show 16 ≤ 64 by decide)
          refine ⟨by show 1 ≤ sizeLine; decide, fun l1 n1 => ?_⟩
          have s7 := Same.new (o := .lst [V.int 0]) n1
          refine ⟨_, rfl, _, rfl, q, _, _, .ref pa, rfl, rfl, SqL.of (s7 _ _ hL3), atI_nat (by rw [List.getElem?_map, hpa]; rfl), pa, y, rfl, s7 _ _ ea, ly, fun H8 l2 s8 n2 hl2 => ?_⟩
          have t8 := s7.trans s8
          refine ⟨l1, l2, _, _, rfl, rfl, s8 _ _ upd_same, hl2, small (by rw [List.length_map, lineN_len]; show 1 + _ ≤ _; omega), fun l3 n3 => ?_⟩
          have s9 := Same.new (o := .lst ([V.int 0] ++ (lineN y).map V.int)) n3
          have t9 := t8.trans s9
          refine ⟨_, rfl, _, rfl, q, _, _, .ref pb, rfl, rfl, SqL.of (t9 _ _ hL3), atI_nat (by rw [List.getElem?_map, hpb]; rfl), pb, y2, rfl, t9 _ _ eb, ly2, fun H10 l4 s10 n4 hl4 => ?_⟩
          refine ⟨l3, l4, _, _, rfl, rfl, s10 _ _ upd_same, hl4, small (by rw [List.length_append, List.length_map, List.length_map, lineN_len, lineN_len]; show 1 + _ + _ ≤ _; omega), fun p np => ?_⟩
          have t10 := sm.trans (t9.trans s10)
          refine k _ p (t10.trans (Same.new np)) (t10.free np) (upd_same.trans ?_)
          rw [List.map_cons, List.map_append]
          rfl
        · refine ⟨rfl, ⟨_, _, _, rfl⟩, fun z hzz => ?_⟩
          rw [take_snoc (hz i y hy), List.mem_append, List.mem_singleton] at hzz
          rcases hzz with h | h
          · exact inv z h
          · rw [h]
            show ((L.drop (i + 1)).find? fun z => decide (Rn.runP s [z] = Rn.runP s [y])).map (fun z => (y, z)) = none
            rw [fnd, List.getElem?_drop, List.getElem?_eq_none (by omega)]
            rfl
      · rintro σ H' ⟨rfl, ⟨v5, v6, v7, rfl⟩, inv⟩
        have hR : sameR s u = [1] := by
          unfold sameR
          rw [eL, show L.zipIdx.findSome? _ = none from List.findSome?_eq_none_iff.mpr fun z hzz => inv z (by rw [List.take_of_length_le (by rw [List.length_zipIdx, List.length_map]; omega)]; exact hzz)]
        rw [hR] at k
        refine ⟨by show 1 ≤ sizeLine; decide, fun p np => ?_⟩
        exact k _ p (sm.trans (Same.new np)) (sm.free np) upd_same
end
end Lw

/-! the desk -/
namespace Lw
open PySem PySem.Spec PyProof.Rows L2
open VasedBase (Bytes PTok Toks)
open Vaseda (Deed Cmd Script Line)

def dkF (h : Bool) (a b : PySem.Addr) : List (Str × V) := [("held", .bl h), ("first", .ref a), ("second", .ref b)]
def oS : Vasedd.Obj → Script
  | none => []
  | some h => h.s
def oU : Vasedd.Obj → Script
  | none => []
  | some h => h.u
structure OkO (o : Vasedd.Obj) : Prop where
  ws : Rn.Wf (oS o)
  wu : Rn.Wf (oU o)
  ls : (oS o).length ≤ 16
  lu : (oU o).length ≤ 16
  pl : Vasedb.plain (oS o ++ oU o) = true
theorem wf_nil : Rn.Wf [] := fun c hc => by cases hc
theorem ok_none : OkO none := ⟨wf_nil, wf_nil, Nat.zero_le _, Nat.zero_le _, by decide +kernel⟩
structure DeskAt (ad : Ad) (H : Hp) (p dx a b : PySem.Addr) (o : Vasedd.Obj) : Prop where
  ins : H p = some (.ins ad.cDesk dx (dkF o.isSome a b))
  fst : CmdsAt ad H a (oS o)
  snd : CmdsAt ad H b (oU o)
  ok : OkO o
def DeskE (ad : Ad) (H : Hp) (p : PySem.Addr) (o : Vasedd.Obj) : Prop := ∃ dx a b, DeskAt ad H p dx a b o
theorem dkF_held {h : Bool} {a b : PySem.Addr} : (dkF h a b).lookup ("held" : Str) = some (.bl h) := lk1
theorem dkF_first {h : Bool} {a b : PySem.Addr} : (dkF h a b).lookup ("first" : Str) = some (.ref a) := (lk2 (by decide +kernel)).trans lk1
theorem dkF_second {h : Bool} {a b : PySem.Addr} : (dkF h a b).lookup ("second" : Str) = some (.ref b) := (lk2 (by decide +kernel)).trans ((lk2 (by decide +kernel)).trans lk1)
theorem dkF_none {h : Bool} {a b : PySem.Addr} (n : Str) (h1 : (n == ("held" : Str)) = false) (h2 : (n == ("first" : Str)) = false) (h3 : (n == ("second" : Str)) = false) : (dkF h a b).lookup n = none := (lk2 h1).trans ((lk2 h2).trans ((lk2 h3).trans rfl))
theorem dk_held {h h' : Bool} {a b : PySem.Addr} : putF ("held" : Str) (.bl h') (dkF h a b) = dkF h' a b := pt1
theorem dk_first {h : Bool} {a a' b : PySem.Addr} : putF ("first" : Str) (.ref a') (dkF h a b) = dkF h a' b := by
  unfold dkF
  rw [pt2 (by decide +kernel), pt1]
theorem dk_second {h : Bool} {a b b' : PySem.Addr} : putF ("second" : Str) (.ref b') (dkF h a b) = dkF h a b' := by
  unfold dkF
  rw [pt2 (by decide +kernel), pt2 (by decide +kernel), pt1]
section
variable {ad : Ad} {H H' : Hp} {p dx a b : PySem.Addr} {o : Vasedd.Obj}
theorem DeskAt.same (s : Same H H') (h : DeskAt ad H p dx a b o) : DeskAt ad H' p dx a b o := ⟨s _ _ h.ins, h.fst.same s, h.snd.same s, h.ok⟩
theorem DeskAt.apart (h : DeskAt ad H p dx a b o) : Apart H p := Apart.insK h.ins (by decide +kernel) (by decide +kernel)
theorem cmds_ne {c : PySem.Addr} {s : Script} {C dx : PySem.Addr} {fs : List (Str × V)} (h : CmdsAt ad H c s) (e : H p = some (.ins C dx fs)) : c ≠ p := fun z => by
  obtain ⟨_, x, _⟩ := h
  rw [z, e] at x
  cases x
/-- the desk anew: its lists are the old ones, or new -/
def Frs (H : Hp) (a b c : PySem.Addr) : Prop := c = a ∨ c = b ∨ H c = none
def DeskN (ad : Ad) (H : Hp) (a b : PySem.Addr) (H' : Hp) (p : PySem.Addr) (o : Vasedd.Obj) : Prop := ∃ dx a' b', DeskAt ad H' p dx a' b' o ∧ Frs H a b a' ∧ Frs H a b b'
theorem DeskN.old (h : DeskAt ad H' p dx a b o) : DeskN ad H a b H' p o := ⟨dx, a, b, h, .inl rfl, .inr (.inl rfl)⟩
end
theorem pl_nil (s : Script) : Vasedb.plain (s ++ []) = Vasedb.plain s := by rw [List.append_nil]
/-- a script read over another -/
theorem load_step (o : Vasedd.Obj) (b : Bytes) : Vasedd.step o (.load b) = match Vaseda.read b with
    | .error f => (o, VasedBase.faulty f)
    | .ok s => if Vasedb.plain s = true then (some ⟨s, []⟩, ⟨1, [(s.length : Int)]⟩) else (o, VasedBase.one (-6)) := by
  show (match Vasedd.readPlain b [] with
    | .error a => (o, a)
    | .ok s => (some (⟨s, []⟩ : Vasedd.Held), (⟨1, Vasedd.nats [s.length]⟩ : VasedBase.Answer))) = _
  unfold Vasedd.readPlain Vasedd.both
  cases Vaseda.read b with
  | error f => rfl
  | ok s =>
    dsimp only
    rw [pl_nil]
    by_cases c : Vasedb.plain s = true
    · rw [if_pos c, if_pos c]
      rfl
    · rw [if_neg c, if_neg c]
theorem other_step (h : Vasedd.Held) (b : Bytes) : Vasedd.step (some h) (.other b) = match Vaseda.read b with
    | .error f => (some h, VasedBase.faulty f)
    | .ok u => if Vasedb.plain (h.s ++ u) = true then (some ⟨h.s, u⟩, ⟨1, [(u.length : Int)]⟩) else (some h, VasedBase.one (-6)) := by
  show (match Vasedd.readPlain b h.s with
    | .error a => (some h, a)
    | .ok u => (some (⟨h.s, u⟩ : Vasedd.Held), (⟨1, Vasedd.nats [u.length]⟩ : VasedBase.Answer))) = _
  unfold Vasedd.readPlain Vasedd.both
  cases Vaseda.read b with
  | error f => rfl
  | ok u =>
    dsimp only
    rw [Rn.plain_comm h.s u]
    by_cases c : Vasedb.plain (u ++ h.s) = true
    · rw [if_pos c, if_pos c]
      rfl
    · rw [if_neg c, if_neg c]
section
variable {P : Program} {w : World} {K : PySem.W.Frag} {mg : Str → Option Value} {base : Heap} {ad : Ad}
theorem sc_Desk_init : FnScope N_Desk_init P_Desk_init (defScope s_Desk_init) := ⟨rfl, rfl, rfl, by decide +kernel, rfl, by decide +kernel, by decide +kernel⟩
def sp_Desk_init (ad : Ad) : Sp := fun vs H Q _ => ∃ (p dx : PySem.Addr), vs = [.ref p] ∧ H p = some (.ins ad.cDesk dx []) ∧ ∀ H', But p H H' → DeskE ad H' p none → Q .non H'
theorem ok_Desk_init (T : Txt K mg ad) : OkI P w K mg base CX0 1 ad.cDesk "Desk" P_Desk_init (sp_Desk_init ad) := by
  obtain ⟨f, fd, M, hm, F, hb⟩ := T.d_Desk_init
  refine ⟨f, fd, M, hm, hb, F.ok sc_Desk_init (fun vs H Q E h => ?_) (fun cdv A outer s H vs Q E hr h => ⟨_, (pss_cons (ps_fld (pv 0) pe_bl rfl)
     (pss_cons (ps_fld (pv 0) (pe_lst pa_nil) rfl)
     (pss_one (ps_fld (pv 0) (pe_lst pa_nil) rfl)))), ?_⟩)⟩
  · obtain ⟨p, dx, rfl, _⟩ := h
    rfl
  · obtain ⟨p, dx, rfl, hp, k⟩ := h
    refine ⟨_, rfl, p, _, dx, _, rfl, hp, T.cl_Desk, T.na_Desk_held, by decide, ?_⟩
    refine ⟨by show 0 ≤ sizeLine; decide, fun a na => ⟨_, rfl, p, _, dx, _, rfl, (Same.new na) _ _ upd_same, T.cl_Desk, T.na_Desk_first, by show 1 < 1000; decide, ?_⟩⟩
    refine ⟨by show 0 ≤ sizeLine; decide, fun b nb => ⟨_, rfl, p, _, dx, _, rfl, (Same.new nb) _ _ upd_same, T.cl_Desk, T.na_Desk_second, by show 2 < 1000; decide, ?_⟩⟩
    have nap : a ≠ p := fun z => by rw [z, upd_same] at na; cases na
    have nbp : b ≠ p := fun z => by rw [z, upd_same] at nb; cases nb
    have nab : a ≠ b := fun z => by
      rw [← z, upd_ne nap, upd_same] at nb
      cases nb
    have na0 : H a = none := by rw [upd_ne nap] at na; exact na
    have nb0 : H b = none := by rw [upd_ne nbp, upd_ne nab.symm, upd_ne nbp] at nb; exact nb
    refine k _ (fun c u hc e => ?_) ⟨dx, a, b, upd_same.trans ?_, ⟨[], ?_, .nil⟩, ⟨[], ?_, .nil⟩, ok_none⟩
    · rw [upd_ne hc, upd_ne (ne_of_none e nb0), upd_ne hc, upd_ne (ne_of_none e na0), upd_ne hc]
      exact e
    · rw [pt0, pt2 (by decide +kernel), pt0, pt2 (by decide +kernel), pt2 (by decide +kernel), pt0]
      rfl
    · rw [upd_ne nap, upd_ne nab, upd_ne nap]
      exact upd_same
    · rw [upd_ne nbp]
      exact upd_same
abbrev TB (ad : Ad) : WX → TS := fun W => tAsg (tCallSD (sp_read_script ad) [] (WE W) (tCons (tVar 1) tNil)) (gName 2)
abbrev TSU (ad : Ad) : PySem.Addr → Value → Option PySem.Addr → TS := fun a cls d => tRet (tLst (tCons (tC (.int 0)) (tCons (tXf a cls d ad.cFault "code" (tVar 3)) (tCons (tXf a cls d ad.cFault "place" (tVar 3)) tNil))))
theorem sc_Desk_load : FnScope N_Desk_load P_Desk_load (defScope s_Desk_load) := ⟨rfl, rfl, rfl, by decide +kernel, rfl, by decide +kernel, by decide +kernel⟩
def sp_Desk_load (ad : Ad) : Sp := fun vs H Q _ => ∃ (p a : PySem.Addr) (o : Vasedd.Obj) (b : Bytes) (dx c1 c2 : PySem.Addr), vs = [.ref p, .ref a] ∧ DeskAt ad H p dx c1 c2 o ∧ H a = some (.lst (vl b)) ∧ b.length ≤ 20000 ∧ ∀ H' r, But p H H' → DeskN ad H c1 c2 H' p (Vasedd.step o (.load b)).1 → H r = none → RowL H' r (VaseddNeutral.encode (Vasedd.step o (.load b)).2) → Q (.ref r) H'
theorem ok_Desk_load (T : Txt K mg ad) : OkM P w K mg base CX0 8 ad.cDesk "load" P_Desk_load (sp_Desk_load ad) := by
  obtain ⟨f, fd, M, F, hb⟩ := T.d_Desk_load
  have G_read_script : OkD P w K mg base (L2.CX P w) 7 "read_script" P_read_script (sp_read_script ad) := ok_read_script T
  have G_is_plain : OkD P w K mg base CX0 2 "is_plain" P_is_plain (sp_is_plain ad) := ok_is_plain T
  refine ⟨f, fd, M, hb, F.ok sc_Desk_load (fun vs H Q E h => ?_) (fun cdv A outer s H vs Q E hr h => ⟨_, (pss_cons (ps_try_as (i := 3) (tb := TB ad) (ts := TSU ad) (Wout := fun _ _ _ _ => False) rfl rfl sc_Desk_load.nd rfl rfl ⟨rfl, by decide, Or.inl T.g_Fault⟩ takes0
     (fun W pn xe tk _ => (pss_one (ps_set (i := 2) sc_Desk_load.nd rfl (Or.inl rfl) (pe_callDS (G_read_script) (hr.mono (by decide)) (fun σ => passAt tk σ) (pa_cons (pv 1) pa_nil)))))
     (fun a oe cls d pn hz hf => (pss_one (ps_ret (pe_lst (pa_cons pe_int (pa_cons (pe_xf T.xf T.nx_code hz hf (pv 3)) (pa_cons (pe_xf T.xf T.nx_place hz hf (pv 3)) pa_nil))))))))
     (pss_cons (ps_if (pt_not (pt_val (pe_callD (G_is_plain) (hr.mono (by decide)) pass0 (pa_cons (pv 2) pa_nil))))
     (pss_one (ps_ret (pe_lst (pa_cons (pe_un un_neg pe_int) pa_nil))))
     pss_nil)
     (pss_cons (ps_fld (pv 0) pe_bl rfl)
     (pss_cons (ps_fld (pv 0) (pv 2) rfl)
     (pss_cons (ps_fld (pv 0) (pe_lst pa_nil) rfl)
     (pss_one (ps_ret (pe_lst (pa_cons pe_int (pa_cons (pe_callB call_len_seq (by rfl) T.n_len PySem.boot_len (pa_cons (pv 2) pa_nil)) pa_nil)))))))))), ?_⟩)⟩
  · obtain ⟨p, a, o, b, dx, c1, c2, rfl, _⟩ := h
    rfl
  · obtain ⟨p, a, o, b, dx, c1, c2, rfl, hD, hB, lb, k⟩ := h
    rw [load_step] at k
    refine ⟨_, rfl, a, b, rfl, hB, lb, fun f hf => ?_, fun s hs H1 q s1 nq hC => ?_⟩
    · rw [hf] at k
      intro d H1 s1 hd
      refine ⟨true, T.em, fun _ x nx => ?_, fun z => nomatch z⟩
      refine ⟨_, rfl, rfl, rfl, d, _, _, rfl, hd, (lk2 (by decide +kernel)).trans lk1, _, rfl, rfl, rfl, d, _, _, rfl, hd, lk1, by show 3 ≤ sizeLine; decide, fun r nr => ?_⟩
      have t1 := s1.trans (Same.new (o := .lst [V.int 0, V.int (f.code : Int), V.int (f.place : Int)]) nr)
      exact k _ r (But.of t1) (.old (hD.same t1)) (s1.free nr) upd_same
    · rw [hs] at k
      have wl := Rn.wf_read hs
      refine ⟨_, rfl, q, s, rfl, hC, by omega, fun H2 s2 => ⟨_, rfl, ?_⟩⟩
      have t2 := s1.trans s2
      have hD2 := hD.same t2
      have hC2 := hC.same s2
      dsimp only at k
      refine ifB (fun e => ?_) (fun e => ?_)
      · rw [if_neg (show ¬ Vasedb.plain s = true by rw [Bool.not_eq_true'] at e; rw [e]; exact Bool.false_ne_true)] at k
        refine ⟨_, rfl, by show 1 ≤ sizeLine; decide, fun r nr => ?_⟩
        exact k _ r (But.of (t2.trans (Same.new nr))) (.old (hD2.same (Same.new nr))) (t2.free nr) upd_same
      · have e' : Vasedb.plain s = true := by rw [Bool.not_eq_false'] at e; exact e
        rw [if_pos e'] at k
        have nqp : q ≠ p := cmds_ne hC2 hD2.ins
        have A2 := hD2.apart
        refine ⟨_, rfl, p, _, dx, _, rfl, hD2.ins, T.cl_Desk, T.na_Desk_held, by show 3 < 1000; decide, ?_⟩
        rw [dk_held]
        refine ⟨_, rfl, _, rfl, p, _, dx, _, rfl, upd_same, T.cl_Desk, T.na_Desk_first, by show 3 < 1000; decide, ?_⟩
        rw [dk_first]
        refine ⟨by show 0 ≤ sizeLine; decide, fun z nz => ⟨_, rfl, p, _, dx, _, rfl, (Same.new nz) _ _ upd_same, T.cl_Desk, T.na_Desk_second, by show 3 < 1000; decide, ?_⟩⟩
        rw [dk_second]
        have nzp : z ≠ p := fun y => by rw [y, upd_same] at nz; cases nz
        have nz2 : H2 z = none := by rw [upd_ne nzp, upd_ne nzp] at nz; exact nz
        generalize hG : upd (upd (upd (upd H2 p (.ins ad.cDesk dx (dkF true c1 c2))) p (.ins ad.cDesk dx (dkF true q c2))) z (.lst [])) p (.ins ad.cDesk dx (dkF true q z)) = G at *
        have bG : But p H2 G := fun c u hc h => by
          rw [← hG, upd_ne hc, upd_ne (ne_of_none h nz2), upd_ne hc, upd_ne hc]
          exact h
        have eG : G p = some (.ins ad.cDesk dx (dkF true q z)) := by rw [← hG]; exact upd_same
        have eZ : G z = some (.lst []) := by rw [← hG, upd_ne nzp]; exact upd_same
        have hC3 := hC2.but A2 bG nqp
        have dG : DeskAt ad G p dx q z (some ⟨s, []⟩) := ⟨eG, hC3, ⟨[], eZ, .nil⟩, wl.1, wf_nil, wl.2, Nat.zero_le _, by
          show Vasedb.plain (s ++ []) = true
          rw [pl_nil]
          exact e'⟩
        obtain ⟨cs, eC, rC⟩ := id hC3
        refine ⟨_, rfl, q, _, rfl, SqLo eC, by show 2 ≤ sizeLine; decide, fun r nr => ?_⟩
        have nr0 : H r = none := by
          cases e : H r with
          | none => rfl
          | some u =>
            by_cases y : r = p
            · rw [y, eG] at nr; cases nr
            · rw [bG r u y (t2 r u e)] at nr; cases nr
        have t3 := Same.new (o := .lst [V.int 1, V.int ((cs.map V.ref).length : Int)]) nr
        refine k _ r (fun c u hc h => t3 _ _ (bG c u hc (t2 c u h))) ⟨dx, q, z, dG.same t3, .inr (.inr nq), .inr (.inr (t2.free nz2))⟩ nr0 (upd_same.trans ?_)
        rw [List.length_map, Paired.length rC]
        rfl
theorem sc_Desk_load_other : FnScope N_Desk_load_other P_Desk_load_other (defScope s_Desk_load_other) := ⟨rfl, rfl, rfl, by decide +kernel, rfl, by decide +kernel, by decide +kernel⟩
def sp_Desk_load_other (ad : Ad) : Sp := fun vs H Q _ => ∃ (p a : PySem.Addr) (h : Vasedd.Held) (b : Bytes) (dx c1 c2 : PySem.Addr), vs = [.ref p, .ref a] ∧ DeskAt ad H p dx c1 c2 (some h) ∧ H a = some (.lst (vl b)) ∧ b.length ≤ 20000 ∧ ∀ H' r, But p H H' → DeskN ad H c1 c2 H' p (Vasedd.step (some h) (.other b)).1 → H r = none → RowL H' r (VaseddNeutral.encode (Vasedd.step (some h) (.other b)).2) → Q (.ref r) H'
theorem ok_Desk_load_other (T : Txt K mg ad) : OkM P w K mg base CX0 8 ad.cDesk "load_other" P_Desk_load_other (sp_Desk_load_other ad) := by
  obtain ⟨f, fd, M, F, hb⟩ := T.d_Desk_load_other
  have G_read_script : OkD P w K mg base (L2.CX P w) 7 "read_script" P_read_script (sp_read_script ad) := ok_read_script T
  have G_is_plain : OkD P w K mg base CX0 2 "is_plain" P_is_plain (sp_is_plain ad) := ok_is_plain T
  refine ⟨f, fd, M, hb, F.ok sc_Desk_load_other (fun vs H Q E h => ?_) (fun cdv A outer s H vs Q E hr h => ⟨_, (pss_cons (ps_try_as (i := 3) (tb := TB ad) (ts := TSU ad) (Wout := fun _ _ _ _ => False) rfl rfl sc_Desk_load_other.nd rfl rfl ⟨rfl, by decide, Or.inl T.g_Fault⟩ takes0
     (fun W pn xe tk _ => (pss_one (ps_set (i := 2) sc_Desk_load_other.nd rfl (Or.inl rfl) (pe_callDS (G_read_script) (hr.mono (by decide)) (fun σ => passAt tk σ) (pa_cons (pv 1) pa_nil)))))
     (fun a oe cls d pn hz hf => (pss_one (ps_ret (pe_lst (pa_cons pe_int (pa_cons (pe_xf T.xf T.nx_code hz hf (pv 3)) (pa_cons (pe_xf T.xf T.nx_place hz hf (pv 3)) pa_nil))))))))
     (pss_cons (ps_if (pt_not (pt_val (pe_callD (G_is_plain) (hr.mono (by decide)) pass0 (pa_cons (pe_op op_cat (pe_fld (pv 0) rfl) (pv 2)) pa_nil))))
     (pss_one (ps_ret (pe_lst (pa_cons (pe_un un_neg pe_int) pa_nil))))
     pss_nil)
     (pss_cons (ps_fld (pv 0) (pv 2) rfl)
     (pss_one (ps_ret (pe_lst (pa_cons pe_int (pa_cons (pe_callB call_len_seq (by rfl) T.n_len PySem.boot_len (pa_cons (pv 2) pa_nil)) pa_nil)))))))), ?_⟩)⟩
  · obtain ⟨p, a, o, b, dx, c1, c2, rfl, _⟩ := h
    rfl
  · obtain ⟨p, a, ho, b, dx, c1, c2, rfl, hD, hB, lb, k⟩ := h
    rw [other_step] at k
    refine ⟨_, rfl, a, b, rfl, hB, lb, fun f hf => ?_, fun s hs H1 q s1 nq hC => ?_⟩
    · rw [hf] at k
      intro d H1 s1 hd
      refine ⟨true, T.em, fun _ x nx => ?_, fun z => nomatch z⟩
      refine ⟨_, rfl, rfl, rfl, d, _, _, rfl, hd, (lk2 (by decide +kernel)).trans lk1, _, rfl, rfl, rfl, d, _, _, rfl, hd, lk1, by show 3 ≤ sizeLine; decide, fun r nr => ?_⟩
      have t1 := s1.trans (Same.new (o := .lst [V.int 0, V.int (f.code : Int), V.int (f.place : Int)]) nr)
      exact k _ r (But.of t1) (.old (hD.same t1)) (s1.free nr) upd_same
    · rw [hs] at k
      have wl := Rn.wf_read hs
      have hD1 := hD.same s1
      obtain ⟨xs, eA, rA⟩ := id hD1.fst
      obtain ⟨ys, eB, rB⟩ := id hC
      have lxs := Paired.length rA
      have lys := Paired.length rB
      have l16 : ho.s.length ≤ 16 := hD.ok.ls
      have oSh : oS (some ho) = ho.s := rfl
      rw [oSh] at lxs
      refine ⟨_, rfl, p, _, dx, _, _, rfl, hD1.ins, T.cl_Desk, T.na_Desk_first, dkF_first, _, rfl, c1, q, _, _, rfl, rfl, eA, eB, small (by rw [List.length_map, List.length_map]; omega), fun g ng => ?_⟩
      have t2 := Same.new (o := .lst (xs.map V.ref ++ ys.map V.ref)) ng
      refine ⟨g, ho.s ++ s, rfl, cmds_app t2 hD1.fst hC eA eB upd_same, by rw [List.length_append]; omega, fun H2 s2 => ⟨_, rfl, ?_⟩⟩
      have t3 := (s1.trans t2).trans s2
      have hD2 := hD.same t3
      have hC2 := (hC.same t2).same s2
      dsimp only at k
      refine ifB (fun e => ?_) (fun e => ?_)
      · rw [if_neg (show ¬ Vasedb.plain (ho.s ++ s) = true by rw [Bool.not_eq_true'] at e; rw [e]; exact Bool.false_ne_true)] at k
        refine ⟨_, rfl, by show 1 ≤ sizeLine; decide, fun r nr => ?_⟩
        exact k _ r (But.of (t3.trans (Same.new nr))) (.old (hD2.same (Same.new nr))) (t3.free nr) upd_same
      · have e' : Vasedb.plain (ho.s ++ s) = true := by rw [Bool.not_eq_false'] at e; exact e
        rw [if_pos e'] at k
        have nqp : q ≠ p := cmds_ne hC2 hD2.ins
        have A2 := hD2.apart
        refine ⟨_, rfl, _, rfl, p, _, dx, _, rfl, hD2.ins, T.cl_Desk, T.na_Desk_second, by show 3 < 1000; decide, ?_⟩
        rw [dk_second]
        generalize hG : upd H2 p (.ins ad.cDesk dx (dkF (some ho).isSome c1 q)) = G at *
        have bG : But p H2 G := by rw [← hG]; exact But.upd
        have eG : G p = some (.ins ad.cDesk dx (dkF (some ho).isSome c1 q)) := by rw [← hG]; exact upd_same
        have hC3 := hC2.but A2 bG nqp
        have dG : DeskAt ad G p dx c1 q (some ⟨ho.s, s⟩) := ⟨eG, hD2.fst.but A2 bG (cmds_ne hD2.fst hD2.ins), hC3, hD.ok.ws, wl.1, hD.ok.ls, wl.2, e'⟩
        obtain ⟨cs, eC, rC⟩ := id hC3
        refine ⟨_, rfl, q, _, rfl, SqLo eC, by show 2 ≤ sizeLine; decide, fun r nr => ?_⟩
        have nr0 : H r = none := by
          cases e : H r with
          | none => rfl
          | some u =>
            by_cases y : r = p
            · rw [y, eG] at nr; cases nr
            · rw [bG r u y (t3 r u e)] at nr; cases nr
        have t4 := Same.new (o := .lst [V.int 1, V.int ((cs.map V.ref).length : Int)]) nr
        refine k _ r (fun c u hc h => t4 _ _ (bG c u hc (t3 c u h))) ⟨dx, c1, q, dG.same t4, .inl rfl, .inr (.inr nq)⟩ nr0 (upd_same.trans ?_)
        rw [List.length_map, Paired.length rC]
        rfl
theorem sc_Desk_turn_round : FnScope N_Desk_turn_round P_Desk_turn_round (defScope s_Desk_turn_round) := ⟨rfl, rfl, rfl, by decide +kernel, rfl, by decide +kernel, by decide +kernel⟩
def sp_Desk_turn_round (ad : Ad) : Sp := fun vs H Q _ => ∃ (p : PySem.Addr) (h : Vasedd.Held) (dx c1 c2 : PySem.Addr), vs = [.ref p] ∧ DeskAt ad H p dx c1 c2 (some h) ∧ ∀ H' r, But p H H' → DeskN ad H c1 c2 H' p (Vasedd.step (some h) .turn).1 → H r = none → RowL H' r (VaseddNeutral.encode (Vasedd.step (some h) .turn).2) → Q (.ref r) H'
theorem ok_Desk_turn_round (T : Txt K mg ad) : OkM P w K mg base CX0 1 ad.cDesk "turn_round" P_Desk_turn_round (sp_Desk_turn_round ad) := by
  obtain ⟨f, fd, M, F, hb⟩ := T.d_Desk_turn_round
  refine ⟨f, fd, M, hb, F.ok sc_Desk_turn_round (fun vs H Q E h => ?_) (fun cdv A outer s H vs Q E hr h => ⟨_, (pss_cons (ps_set (i := 1) sc_Desk_turn_round.nd rfl (Or.inl rfl) (pe_fld (pv 0) rfl))
     (pss_cons (ps_fld (pv 0) (pe_fld (pv 0) rfl) rfl)
     (pss_cons (ps_fld (pv 0) (pv 1) rfl)
     (pss_one (ps_ret (pe_lst (pa_cons (pe_callB call_len_seq (by rfl) T.n_len PySem.boot_len (pa_cons (pe_fld (pv 0) rfl) pa_nil)) (pa_cons (pe_callB call_len_seq (by rfl) T.n_len PySem.boot_len (pa_cons (pe_fld (pv 0) rfl) pa_nil)) pa_nil)))))))), ?_⟩)⟩
  · obtain ⟨p, h, dx, c1, c2, rfl, _⟩ := h
    rfl
  · obtain ⟨p, ho, dx, c1, c2, rfl, hD, k⟩ := h
    have A := hD.apart
    refine ⟨_, rfl, p, _, dx, _, _, rfl, hD.ins, T.cl_Desk, T.na_Desk_first, dkF_first, ?_⟩
    refine ⟨_, rfl, p, _, dx, _, _, rfl, hD.ins, T.cl_Desk, T.na_Desk_second, dkF_second, _, rfl, p, _, dx, _, rfl, hD.ins, T.cl_Desk, T.na_Desk_first, by show 3 < 1000; decide, ?_⟩
    rw [dk_first]
    refine ⟨_, rfl, _, rfl, p, _, dx, _, rfl, upd_same, T.cl_Desk, T.na_Desk_second, by show 3 < 1000; decide, ?_⟩
    rw [dk_second]
    generalize hG : upd (upd H p (.ins ad.cDesk dx (dkF (some ho).isSome c2 c2))) p (.ins ad.cDesk dx (dkF (some ho).isSome c2 c1)) = G at *
    have bG : But p H G := fun c u hc h => by
      rw [← hG, upd_ne hc, upd_ne hc]
      exact h
    have eG : G p = some (.ins ad.cDesk dx (dkF (some ho).isSome c2 c1)) := by rw [← hG]; exact upd_same
    have f1 := hD.fst.but A bG (cmds_ne hD.fst hD.ins)
    have f2 := hD.snd.but A bG (cmds_ne hD.snd hD.ins)
    have dG : DeskAt ad G p dx c2 c1 (some ⟨ho.u, ho.s⟩) := ⟨eG, f2, f1, hD.ok.wu, hD.ok.ws, hD.ok.lu, hD.ok.ls, by
      have := hD.ok.pl
      rw [Rn.plain_comm] at this
      exact this⟩
    obtain ⟨xs, e1, r1⟩ := id f1
    obtain ⟨ys, e2, r2⟩ := id f2
    refine ⟨_, rfl, p, _, dx, _, _, rfl, eG, T.cl_Desk, T.na_Desk_first, dkF_first, c2, _, rfl, SqLo e2, ?_⟩
    refine ⟨_, rfl, p, _, dx, _, _, rfl, eG, T.cl_Desk, T.na_Desk_second, dkF_second, c1, _, rfl, SqLo e1, by show 2 ≤ sizeLine; decide, fun r nr => ?_⟩
    have nr0 : H r = none := by
      cases e : H r with
      | none => rfl
      | some u =>
        by_cases y : r = p
        · rw [y, eG] at nr; cases nr
        · rw [bG r u y e] at nr; cases nr
    have t4 := Same.new (o := .lst [V.int ((ys.map V.ref).length : Int), V.int ((xs.map V.ref).length : Int)]) nr
    refine k _ r (fun c u hc h => t4 _ _ (bG c u hc h)) ⟨dx, c2, c1, dG.same t4, .inr (.inl rfl), .inl rfl⟩ nr0 (upd_same.trans ?_)
    rw [List.length_map, List.length_map, Paired.length r1, Paired.length r2]
    rfl
end
end Lw

/-! the plain law of the answers -/
namespace Lw
open PySem PySem.Spec PyProof.Rows L2
open VasedBase (Bytes PTok Toks)
open Vaseda (Deed Cmd Script Line)

/-! ### kinds, each once -/
theorem hasIn_free {w x : Bytes} {f : UInt8} (h : f ∉ w) : ∀ n, Vaseda.hasIn w (x ++ List.replicate n f) = Vaseda.hasIn w x
  | 0 => by rw [List.replicate_zero, List.append_nil]
  | n + 1 => by
    rw [List.replicate_succ', ← List.append_assoc]
    refine Eq.trans ?_ (hasIn_free h n)
    generalize x ++ List.replicate n f = y
    rw [Bool.eq_iff_iff, Bfs.hasIn_iff, Bfs.hasIn_iff]
    constructor
    · intro q
      rcases List.infix_concat_iff.mp q with q | q
      · rcases List.suffix_concat_iff.mp q with rfl | ⟨t, rfl, _⟩
        · exact List.nil_infix
        · exact absurd (List.mem_append.mpr (.inr (List.mem_singleton.mpr rfl))) h
      · exact q
    · intro q
      exact q.trans (List.prefix_append y [f]).isInfix
theorem mask_padded {hs : List Bytes} (ok : WordsOk hs) (x : Bytes) : Vasedb.mask hs (Vasedb.padded hs x) = Vasedb.mask hs x := by
  obtain ⟨_, _, _, ef, _⟩ := Bfs.free_some ok.sum
  unfold Vasedb.mask Vasedb.padded
  refine List.map_congr_left fun w hw => hasIn_free (fun z => ?_) _
  rw [List.any_eq_false] at ef
  exact ef w hw (by simpa using z)
theorem kinds_nodup {s : Script} (wf : Rn.Wf s) (f : Rn.Few s) : (kindsP s).Nodup := by
  have ok := words_ok f
  have own : (Vasedb.ownWords s).Nodup := Rn.dd_nodup _
  have nil : [] ∉ Vasedb.ownWords s := fun h => (own_wf wf [] h).1 rfl
  have pad : ((Vasedb.leasts (Vasedb.hasWords s)).map (Vasedb.padded (Vasedb.hasWords s))).Nodup := by
    have e : (((Vasedb.leasts (Vasedb.hasWords s)).map (Vasedb.padded (Vasedb.hasWords s))).map (Vasedb.mask (Vasedb.hasWords s))).Nodup := by
      rw [List.map_map, show Vasedb.mask (Vasedb.hasWords s) ∘ Vasedb.padded (Vasedb.hasWords s) = Vasedb.mask (Vasedb.hasWords s) from funext fun x => mask_padded ok x, Bfs.leasts_eq ok.sum]
      exact Bfs.firsts_nodup _ _
    exact List.Pairwise.of_map _ (fun a b h z => h (by rw [z])) e
  have long : ∀ x ∈ (Vasedb.leasts (Vasedb.hasWords s)).map (Vasedb.padded (Vasedb.hasWords s)), 9 ≤ x.length := fun x hx => by
    obtain ⟨y, _, rfl⟩ := List.mem_map.mp hx
    unfold Vasedb.padded
    rw [List.length_append, List.length_replicate]
    have : VasedBase.NAME = 8 := rfl
    omega
  unfold kindsP
  rw [List.nodup_append, List.nodup_append]
  refine ⟨⟨own, by simp, fun a ha b hb e => ?_⟩, pad, fun a ha b hb e => ?_⟩
  · rw [List.mem_singleton] at hb
    rw [e, hb] at ha
    exact nil ha
  · have := long b hb
    rw [← e] at this
    rcases List.mem_append.mp ha with h | h
    · have := (own_wf wf a h).2
      omega
    · rw [List.mem_singleton] at h
      rw [h] at this
      exact absurd this (by decide)
theorem fold_nodup : ∀ (l acc : List Bytes), l.Nodup → (∀ x ∈ l, x ∉ acc) → l.foldl Rn.add acc = acc ++ l
  | [], acc, _, _ => (List.append_nil acc).symm
  | x :: r, acc, hn, hd => by
    rw [List.foldl_cons]
    have e : Rn.add acc x = acc ++ [x] := if_neg (by simpa using hd x List.mem_cons_self)
    rw [e, fold_nodup r _ (List.nodup_cons.mp hn).2 fun y hy z => ?_, List.append_assoc]
    · rfl
    · rcases List.mem_append.mp z with h | h
      · exact hd y (List.mem_cons_of_mem _ hy) h
      · rw [List.mem_singleton] at h
        exact (List.nodup_cons.mp hn).1 (by rw [← h]; exact hy)
theorem dd_id {l : List Bytes} (h : l.Nodup) : l.eraseDups = l := by
  rw [Rn.dd_eq, fold_nodup l [] h fun x _ z => by cases z]
  rfl
/-! ### the specification's kinds -/
theorem kinds_of_eq {s u : Script} (wf : Rn.Wf (s ++ u)) : Vasedd.kindsOf s u = ⟨Vasedb.hasWords (s ++ u), Vasedb.ownWords (s ++ u), kindsP (s ++ u)⟩ := by
  unfold Vasedd.kindsOf
  dsimp only
  rw [Rn.has_both, Rn.own_both, kinds_eq wf]
theorem var0 (hs own : List Bytes) (x : Line) : Vasedd.variant hs own 0 x = x := by
  unfold Vasedd.variant
  split
  · rfl
  · split
    · rfl
    · rw [List.replicate_zero, List.append_nil]
theorem lines0 {s u : Script} (wf : Rn.Wf (s ++ u)) : Vasedd.linesAt (Vasedd.kindsOf s u) 0 = kindsP (s ++ u) := by
  rw [kinds_of_eq wf]
  unfold Vasedd.linesAt
  dsimp only
  rw [show Vasedd.variant (Vasedb.hasWords (s ++ u)) (Vasedb.ownWords (s ++ u)) 0 = id from funext fun x => var0 _ _ x, List.map_id]
theorem lines1 {s u : Script} (wf : Rn.Wf (s ++ u)) : Vasedd.linesAt (Vasedd.kindsOf s u) 1 = varsP (s ++ u) := by
  rw [kinds_of_eq wf]
  rfl
theorem flat_single {α β : Type} (f : α → β) : ∀ l : List α, (l.flatMap fun x => [f x]) = l.map f
  | [] => rfl
  | a :: r => by
    rw [List.flatMap_cons, flat_single f r]
    rfl
theorem texts1 {s u : Script} (wf : Rn.Wf (s ++ u)) : Vasedd.texts (Vasedd.kindsOf s u) 1 = textsP (s ++ u) false := by
  show ((Vasedd.linesAt (Vasedd.kindsOf s u) 0).flatMap fun x => [[x]]) ++ [] = _
  rw [lines0 wf, flat_single (fun x => [x]), List.append_nil]
  unfold textsP
  rw [if_neg (by decide), List.append_nil]
theorem texts2 {s u : Script} (wf : Rn.Wf (s ++ u)) : Vasedd.texts (Vasedd.kindsOf s u) 2 = textsP (s ++ u) true := by
  show ((Vasedd.linesAt (Vasedd.kindsOf s u) 0).flatMap fun x => [[x]]) ++ (((Vasedd.linesAt (Vasedd.kindsOf s u) 0).flatMap fun x => ((Vasedd.linesAt (Vasedd.kindsOf s u) 1).flatMap fun y => [[y]]).map fun t => x :: t) ++ []) = _
  rw [lines0 wf, lines1 wf, flat_single (fun x => [x]), flat_single (fun x => [x]), List.append_nil]
  unfold textsP
  rw [if_pos rfl]
  congr 1
  refine congrArg (fun f => List.flatMap f (kindsP (s ++ u))) (funext fun x => ?_)
  rw [List.map_map]
  rfl
/-! ### the calls -/
section
variable {h : Vasedd.Held}
theorem OkO.wf (k : OkO (some h)) : Rn.Wf (h.s ++ h.u) := fun c hc => (List.mem_append.mp hc).elim (k.ws c) (k.wu c)
theorem OkO.few (k : OkO (some h)) : Rn.Few (h.s ++ h.u) := Rn.few_of k.pl
theorem OkO.ps (k : OkO (some h)) : Vasedb.plain h.s = true := Rn.plain_left k.pl
theorem OkO.pu (k : OkO (some h)) : Vasedb.plain h.u = true := Rn.plain_left (u := h.s) (by rw [Rn.plain_comm]; exact k.pl)
theorem law_alike (k : OkO (some h)) : VaseddNeutral.encode (Vasedd.step (some h) .alike).2 = alikeR h.s h.u := by
  have e1 : Vasedb.differenceIn (Vasedd.kinds h).all h.s h.u = (Vasedb.ats (kindsP (h.s ++ h.u))).find? (unlAt h.s h.u) := by
    unfold Vasedd.kinds Vasedb.differenceIn
    rw [kinds_of_eq k.wf]
    refine congrArg (fun f => List.find? f _) (funext fun a => ?_)
    rw [Rn.outAt_eq k.ps, Rn.outAt_eq k.pu]
    unfold unlAt unl
    rw [bne, Bool.eq_iff_iff]
    simp
  show VaseddNeutral.encode (match Vasedb.differenceIn (Vasedd.kinds h).all h.s h.u with
    | none => VasedBase.one 1
    | some a => ⟨0, Vasedb.atRow a⟩) = _
  rw [e1]
  unfold alikeR
  cases (Vasedb.ats (kindsP (h.s ++ h.u))).find? (unlAt h.s h.u) with
  | none => rfl
  | some a => rfl
theorem most_eq (n : Int) (f : Nat → VasedBase.Answer) (g : Bool → List Int) (h1 : VaseddNeutral.encode (f 1) = g false) (h2 : VaseddNeutral.encode (f 2) = g true) : VaseddNeutral.encode (Vasedd.withMost n f) = if n ≠ 1 ∧ n ≠ 2 then [-3] else g (decide (n = 2)) := by
  unfold Vasedd.withMost
  by_cases c1 : n = 1
  · subst c1
    rw [if_neg (by decide), if_neg (by decide)]
    exact h1
  by_cases c2 : n = 2
  · subst c2
    rw [if_neg (by decide), if_neg (by decide)]
    exact h2
  rw [if_pos (show n < 1 ∨ (Vasedd.MOST : Int) < n from by show n < 1 ∨ (2 : Int) < n; omega), if_pos ⟨c1, c2⟩]
  rfl
theorem text_out (t : Option (List Line)) : VaseddNeutral.encode (Vasedd.textOut t) = match t with
    | none => [1]
    | some t => 0 :: textN t := by
  cases t <;> rfl
theorem look_eq (k : OkO (some h)) (n : Int) (c : Int) (p : List Line → Bool) (hp : ∀ t, p t = judge c h.s h.u t) : VaseddNeutral.encode (Vasedd.withMost n fun m => Vasedd.textOut ((Vasedd.texts (Vasedd.kinds h) m).find? p)) = if n ≠ 1 ∧ n ≠ 2 then [-3] else lookR c h.s h.u (decide (n = 2)) := by
  have e : p = judge c h.s h.u := funext hp
  refine most_eq n _ (lookR c h.s h.u) ?_ ?_
  · rw [text_out, e]
    unfold Vasedd.kinds
    rw [texts1 k.wf]
    rfl
  · rw [text_out, e]
    unfold Vasedd.kinds
    rw [texts2 k.wf]
    rfl
theorem bne_dec {α : Type} [DecidableEq α] (a b : α) : (a != b) = !decide (a = b) := by
  rw [bne, Bool.eq_iff_iff]
  simp
theorem law_look (k : OkO (some h)) (n : Int) : VaseddNeutral.encode (Vasedd.step (some h) (.apart n)).2 = (if n ≠ 1 ∧ n ≠ 2 then [-3] else lookR 3 h.s h.u (decide (n = 2))) ∧
    VaseddNeutral.encode (Vasedd.step (some h) (.undone n)).2 = (if n ≠ 1 ∧ n ≠ 2 then [-3] else lookR 4 h.s h.u (decide (n = 2))) ∧
    VaseddNeutral.encode (Vasedd.step (some h) (.order n)).2 = (if n ≠ 1 ∧ n ≠ 2 then [-3] else lookR 5 h.s h.u (decide (n = 2))) ∧
    VaseddNeutral.encode (Vasedd.step (some h) (.twice n)).2 = (if n ≠ 1 ∧ n ≠ 2 then [-3] else lookR 6 h.s h.u (decide (n = 2))) ∧
    VaseddNeutral.encode (Vasedd.step (some h) (.looks n)).2 = (if n ≠ 1 ∧ n ≠ 2 then [-3] else looksR h.s h.u (decide (n = 2))) := by
  refine ⟨look_eq k n 3 _ fun t => ?_, look_eq k n 4 _ fun t => ?_, look_eq k n 5 _ fun t => ?_, look_eq k n 6 _ fun t => ?_, most_eq n _ (looksR h.s h.u) ?_ ?_⟩
  · show (Vasedd.result h.s t != Vasedd.result h.u t) = jApart h.s h.u t
    rw [Rn.result_eq k.ps, Rn.result_eq k.pu]
    unfold jApart
    rw [bne, Bool.eq_iff_iff]
    simp
  · show (Vasedd.next h.u (Vasedd.result h.s t) != some t) = jUndone h.s h.u t
    rw [Rn.result_eq k.ps, Rn.next_eq k.pu]
    unfold jUndone
    rw [bne, Bool.eq_iff_iff]
    simp
  · show (Vasedd.next h.u (Vasedd.result h.s t) != Vasedd.next h.s (Vasedd.result h.u t)) = jOrder h.s h.u t
    rw [Rn.result_eq k.ps, Rn.result_eq k.pu, Rn.next_eq k.pu, Rn.next_eq k.ps]
    unfold jOrder
    rw [bne, Bool.eq_iff_iff]
    simp
  · show (Vasedd.next h.s (Vasedd.result h.s t) != Vasedd.result h.s t) = jTwice h.s h.u t
    rw [Rn.result_eq k.ps, Rn.next_eq k.ps]
    unfold jTwice
    rw [bne, Bool.eq_iff_iff]
    simp
  · show ((Vasedd.texts (Vasedd.kinds h) 1).length : Int) :: Vasedd.nats [(Vasedd.kinds h).all.length] = _
    unfold Vasedd.kinds
    rw [texts1 k.wf, kinds_of_eq k.wf]
    unfold textsP looksR
    rw [if_neg (by decide), if_neg (by decide), List.append_nil, List.length_map]
    rfl
  · show ((Vasedd.texts (Vasedd.kinds h) 2).length : Int) :: Vasedd.nats [(Vasedd.kinds h).all.length] = _
    unfold Vasedd.kinds
    rw [texts2 k.wf, kinds_of_eq k.wf]
    unfold textsP looksR
    rw [if_pos rfl, if_pos rfl, List.length_append, List.length_map, List.length_flatMap]
    rw [show (List.map (fun x => (List.map (fun y => [x, y]) (varsP (h.s ++ h.u))).length) (kindsP (h.s ++ h.u))) = (kindsP (h.s ++ h.u)).map fun _ => (kindsP (h.s ++ h.u)).length from List.map_congr_left fun x _ => by rw [List.length_map, varsP, List.length_map]]
    rw [List.map_const', List.sum_replicate_nat]
    rfl
theorem ones_eq (k : OkO (some h)) : Vasedd.onesOf (Vasedd.kinds h) = sameL (h.s ++ h.u) := by
  unfold Vasedd.onesOf Vasedd.kinds sameL
  rw [lines0 k.wf, lines1 k.wf, ← Rn.fold_add, dd_id (kinds_nodup k.wf k.few)]
theorem law_same (k : OkO (some h)) : VaseddNeutral.encode (Vasedd.step (some h) .same).2 = sameR h.s h.u := by
  have e1 : Vasedd.sameResult (Vasedd.kinds h) h.s = (sameL (h.s ++ h.u)).zipIdx.findSome? (fun x => (((sameL (h.s ++ h.u)).drop (x.2 + 1)).find? fun y => decide (Rn.runP h.s [y] = Rn.runP h.s [x.1])).map fun y => (x.1, y)) := by
    unfold Vasedd.sameResult
    rw [ones_eq k]
    dsimp only
    rw [List.zipIdx_map, List.findSome?_map]
    refine congrArg (fun f => List.findSome? f _) (funext fun x => ?_)
    show (List.find? (fun y => Vasedd.result h.s [x.1] == y.2) (((sameL (h.s ++ h.u)).map fun x => (x, Vasedd.result h.s [x])).drop (x.2 + 1))).map (fun y => (x.1, y.1)) = _
    rw [← List.map_drop, List.find?_map, Option.map_map]
    refine congr (congrArg _ ?_) ?_
    · rfl
    · refine congrArg (fun f => List.find? f _) (funext fun y => ?_)
      show (Vasedd.result h.s [x.1] == Vasedd.result h.s [y]) = _
      rw [Rn.result_eq k.ps, Rn.result_eq k.ps, Bool.eq_iff_iff, beq_iff_eq, decide_eq_true_iff]
      exact eq_comm
  show VaseddNeutral.encode (match Vasedd.sameResult (Vasedd.kinds h) h.s with
    | none => VasedBase.one 1
    | some x => ⟨0, VasedBase.textRow x.1 ++ VasedBase.textRow x.2⟩) = _
  rw [e1]
  unfold sameR
  cases (sameL (h.s ++ h.u)).zipIdx.findSome? (fun x => (((sameL (h.s ++ h.u)).drop (x.2 + 1)).find? fun y => decide (Rn.runP h.s [y] = Rn.runP h.s [x.1])).map fun y => (x.1, y)) with
  | none => rfl
  | some a => rfl
end
end Lw

/-! calls -/
namespace Lw
open PySem PySem.Spec PyProof.Rows L2
open VasedBase (Bytes PTok Toks)
open Vaseda (Deed Cmd Script Line)

def natsI (b : Bytes) : List Int := b.map fun c => (c.toNat : Int)
theorem natsI_v (b : Bytes) : (natsI b).map V.int = vl b := by
  unfold natsI vl
  rw [List.map_map]
  rfl
/-- the numbers of a call -/
inductive FC : List Int → Vasedd.Call → Prop
  | load (b : Bytes) : b.length ≤ 8192 → FC (0 :: (b.length : Int) :: natsI b) (.load b)
  | other (b : Bytes) : b.length ≤ 8192 → FC (1 :: (b.length : Int) :: natsI b) (.other b)
  | alike : FC [2] .alike
  | apart (n : Int) : FC [3, n] (.apart n)
  | undone (n : Int) : FC [4, n] (.undone n)
  | order (n : Int) : FC [5, n] (.order n)
  | twice (n : Int) : FC [6, n] (.twice n)
  | same : FC [7] .same
  | looks (n : Int) : FC [8, n] (.looks n)
  | turn : FC [9] .turn
def lookRow (c m : Int) (s u : Script) : List Int := if m ≠ 1 ∧ m ≠ 2 then [-3] else if c = 8 then looksR s u (decide (m = 2)) else lookR c s u (decide (m = 2))
theorem DeskN.back {ad : Ad} {H H1 H' : Hp} {a b p : PySem.Addr} {o : Vasedd.Obj} (s : Same H H1) (h : DeskN ad H1 a b H' p o) : DeskN ad H a b H' p o := by
  obtain ⟨dx, a', b', d, f1, f2⟩ := h
  have g : ∀ c, Frs H1 a b c → Frs H a b c := fun c f => f.imp id fun f => f.imp id fun f => s.free f
  exact ⟨dx, a', b', d, g a' f1, g b' f2⟩
section
variable {P : Program} {w : World} {K : PySem.W.Frag} {mg : Str → Option Value} {base : Heap} {ad : Ad}
theorem sc_Desk_look : FnScope N_Desk_look P_Desk_look (defScope s_Desk_look) := ⟨rfl, rfl, rfl, by decide +kernel, rfl, by decide +kernel, by decide +kernel⟩
def sp_Desk_look (ad : Ad) : Sp := fun vs H Q _ => ∃ (p : PySem.Addr) (c m : Int) (h : Vasedd.Held) (dx c1 c2 : PySem.Addr), vs = [.ref p, .int c, .int m] ∧ DeskAt ad H p dx c1 c2 (some h) ∧ ∀ H' r, Same H H' → H r = none → RowL H' r (lookRow c m h.s h.u) → Q (.ref r) H'
theorem ok_Desk_look (T : Txt K mg ad) : OkM P w K mg base CX0 11 ad.cDesk "look" P_Desk_look (sp_Desk_look ad) := by
  obtain ⟨f, fd, M, F, hb⟩ := T.d_Desk_look
  have G_looks : OkD P w K mg base CX0 8 "looks" P_looks (sp_looks ad) := ok_looks T
  have G_look_through : OkD P w K mg base CX0 10 "look_through" P_look_through (sp_look_through ad) := ok_look_through T
  refine ⟨f, fd, M, hb, F.ok sc_Desk_look (fun vs H Q E h => ?_) (fun cdv A outer s H vs Q E hr h => ⟨_, (pss_cons (ps_if (PW.pt (pw_and (pt_cmpR op_ne (pv 2) pe_int (nomark _)) (pw_and1 (pt_cmpR op_ne (pv 2) pe_int (nomark _)))))
     (pss_one (ps_ret (pe_lst (pa_cons (pe_un un_neg pe_int) pa_nil))))
     pss_nil)
     (pss_cons (ps_if (pt_cmpR op_eq (pv 1) pe_int (nomark _))
     (pss_one (ps_ret (pe_callD (G_looks) (hr.mono (by decide)) pass0 (pa_cons (pe_fld (pv 0) rfl) (pa_cons (pe_fld (pv 0) rfl) (pa_cons (pv 2) pa_nil))))))
     pss_nil)
     (pss_one (ps_ret (pe_callD (G_look_through) (hr.mono (by decide)) pass0 (pa_cons (pv 1) (pa_cons (pe_fld (pv 0) rfl) (pa_cons (pe_fld (pv 0) rfl) (pa_cons (pv 2) pa_nil))))))))), ?_⟩)⟩
  · obtain ⟨p, c, m, h, dx, c1, c2, rfl, _⟩ := h
    rfl
  · obtain ⟨p, c, m, h, dx, c1, c2, rfl, hD, k⟩ := h
    unfold lookRow at k
    have rest : ¬ (m ≠ 1 ∧ m ≠ 2) → tSeq (tIfS (tTest (tOp rEq (tVar 1) (tC (.int 8)))) (tRet (tCall (sp_looks ad) [] E0 (tCons (tFld K (tVar 0) "first") (tCons (tFld K (tVar 0) "second") (tCons (tVar 2) tNil))))) tNext) (tRet (tCall (sp_look_through ad) [] E0 (tCons (tVar 1) (tCons (tFld K (tVar 0) "first") (tCons (tFld K (tVar 0) "second") (tCons (tVar 2) tNil)))))) { nx := fun _ H' => Q V.non H', rt := Q } [some (.ref p), some (.int c), some (.int m)] H := fun nm => by
      rw [if_neg nm] at k
      refine ⟨_, rfl, rfl, _, rfl, ifP (fun e => ?_) (fun e => ?_)⟩
      · rw [if_pos (vi_eq.mp e)] at k
        exact ⟨_, rfl, p, _, dx, _, _, rfl, hD.ins, T.cl_Desk, T.na_Desk_first, dkF_first, _, rfl, p, _, dx, _, _, rfl, hD.ins, T.cl_Desk, T.na_Desk_second, dkF_second, _, rfl, c1, c2, h.s, h.u, m, rfl, hD.fst, hD.snd, hD.ok.ls, hD.ok.lu, hD.ok.ws, hD.ok.wu, hD.ok.few, k⟩
      · rw [if_neg fun z => e (vi_eq.mpr z)] at k
        exact ⟨_, rfl, _, rfl, p, _, dx, _, _, rfl, hD.ins, T.cl_Desk, T.na_Desk_first, dkF_first, _, rfl, p, _, dx, _, _, rfl, hD.ins, T.cl_Desk, T.na_Desk_second, dkF_second, _, rfl, c, c1, c2, h.s, h.u, m, rfl, hD.fst, hD.snd, hD.ok.ls, hD.ok.lu, hD.ok.ws, hD.ok.wu, hD.ok.few, k⟩
    refine ⟨_, rfl, rfl, _, rfl, ifN (fun e1 => ?_) (fun e1 => ?_)⟩
    · refine ⟨_, rfl, rfl, _, rfl, ifN (fun e2 => ?_) (fun e2 => ?_)⟩
      · rw [vi_eq] at e1 e2
        rw [if_pos ⟨e1, e2⟩] at k
        refine ⟨_, rfl, by show 1 ≤ sizeLine; decide, fun r nr => ?_⟩
        exact k _ r (Same.new nr) nr upd_same
      · rw [vi_eq] at e2
        exact rest fun z => z.2 e2
    · rw [vi_eq] at e1
      exact rest fun z => z.1 e1
theorem sc_Desk_answer : FnScope N_Desk_answer P_Desk_answer (defScope s_Desk_answer) := ⟨rfl, rfl, rfl, by decide +kernel, rfl, by decide +kernel, by decide +kernel⟩
def sp_Desk_answer (ad : Ad) : Sp := fun vs H Q _ => ∃ (p a : PySem.Addr) (o : Vasedd.Obj) (l : List Int) (c : Vasedd.Call) (dx c1 c2 : PySem.Addr), vs = [.ref p, .ref a] ∧ DeskAt ad H p dx c1 c2 o ∧ RowL H a l ∧ FC l c ∧ ∀ H' r, But p H H' → DeskN ad H c1 c2 H' p (Vasedd.step o c).1 → H r = none → RowL H' r (VaseddNeutral.encode (Vasedd.step o c).2) → Q (.ref r) H'
theorem ok_Desk_answer (T : Txt K mg ad) : OkM P w K mg base CX0 12 ad.cDesk "answer" P_Desk_answer (sp_Desk_answer ad) := by
  obtain ⟨f, fd, M, F, hb⟩ := T.d_Desk_answer
  have G_Desk_load : OkM P w K mg base CX0 8 ad.cDesk "load" P_Desk_load (sp_Desk_load ad) := ok_Desk_load T
  have G_Desk_load_other : OkM P w K mg base CX0 8 ad.cDesk "load_other" P_Desk_load_other (sp_Desk_load_other ad) := ok_Desk_load_other T
  have G_alike : OkD P w K mg base CX0 8 "alike" P_alike (sp_alike ad) := ok_alike T
  have G_same : OkD P w K mg base CX0 9 "same" P_same (sp_same ad) := ok_same T
  have G_Desk_turn_round : OkM P w K mg base CX0 1 ad.cDesk "turn_round" P_Desk_turn_round (sp_Desk_turn_round ad) := ok_Desk_turn_round T
  have G_Desk_look : OkM P w K mg base CX0 11 ad.cDesk "look" P_Desk_look (sp_Desk_look ad) := ok_Desk_look T
  refine ⟨f, fd, M, hb, F.ok sc_Desk_answer (fun vs H Q E h => ?_) (fun cdv A outer s H vs Q E hr h => ⟨_, (pss_cons (ps_set (i := 2) sc_Desk_answer.nd rfl (Or.inl rfl) (pe_ix ix_list (pv 1) pe_int (fun _ _ => rfl)))
     (pss_cons (ps_if (pt_cmpR op_eq (pv 2) pe_int (nomark _))
     (pss_one (ps_ret (pe_methD (pv 0) T.cl_Desk (G_Desk_load) (hr.mono (by decide)) pass0 (pa_cons (pe_slice sl_list (pv 1) (po_some pe_int) po_none) pa_nil))))
     pss_nil)
     (pss_cons (ps_if (pt_not (pt_val (pe_fld (pv 0) rfl)))
     (pss_one (ps_ret (pe_lst (pa_cons (pe_un un_neg pe_int) pa_nil))))
     pss_nil)
     (pss_cons (ps_if (pt_cmpR op_eq (pv 2) pe_int (nomark _))
     (pss_one (ps_ret (pe_methD (pv 0) T.cl_Desk (G_Desk_load_other) (hr.mono (by decide)) pass0 (pa_cons (pe_slice sl_list (pv 1) (po_some pe_int) po_none) pa_nil))))
     pss_nil)
     (pss_cons (ps_if (pt_cmpR op_eq (pv 2) pe_int (nomark _))
     (pss_one (ps_ret (pe_callD (G_alike) (hr.mono (by decide)) pass0 (pa_cons (pe_fld (pv 0) rfl) (pa_cons (pe_fld (pv 0) rfl) pa_nil)))))
     pss_nil)
     (pss_cons (ps_if (pt_cmpR op_eq (pv 2) pe_int (nomark _))
     (pss_one (ps_ret (pe_callD (G_same) (hr.mono (by decide)) pass0 (pa_cons (pe_fld (pv 0) rfl) (pa_cons (pe_fld (pv 0) rfl) pa_nil)))))
     pss_nil)
     (pss_cons (ps_if (pt_cmpR op_eq (pv 2) pe_int (nomark _))
     (pss_one (ps_ret (pe_methD0 (pv 0) T.cl_Desk (G_Desk_turn_round) (hr.mono (by decide)) pass0)))
     pss_nil)
     (pss_one (ps_ret (pe_methD (pv 0) T.cl_Desk (G_Desk_look) (hr.mono (by decide)) pass0 (pa_cons (pv 2) (pa_cons (pe_ix ix_list (pv 1) pe_int (fun _ _ => rfl)) pa_nil)))))))))))), ?_⟩)⟩
  · obtain ⟨p, a, o, l, c, dx, c1, c2, rfl, _⟩ := h
    rfl
  · obtain ⟨p, a, o, l, c, dx, c1, c2, rfl, hD, hA, fc, k⟩ := h
    obtain ⟨n0, l', rfl⟩ : ∃ n0 l', l = n0 :: l' := by cases fc <;> exact ⟨_, _, rfl⟩
    refine ⟨_, rfl, a, _, 0, .int n0, rfl, rfl, SqL.of hA, show atI _ ((0 : Nat) : Int) = _ from atI_nat rfl, ?_⟩
    refine ⟨_, rfl, rfl, _, rfl, ifP (fun e => ?_) (fun e => ?_)⟩
    · rw [vi_eq] at e
      subst e
      cases fc with
      | load b lb =>
        have cut : cutV ((0 :: (b.length : Int) :: natsI b).map V.int) (some 2) none = vl b := by
          rw [show (some (2 : Int)) = some ((2 : Nat) : Int) from rfl, cut_from]
          exact natsI_v b
        refine ⟨_, rfl, p, dx, _, rfl, hD.ins, dkF_none _ (by decide +kernel) (by decide +kernel) (by decide +kernel), _, rfl, _, rfl, a, _, rfl, SqL.of hA, fun q nq => ?_⟩
        rw [cut]
        have s1 := Same.new (o := .lst (vl b)) nq
        refine ⟨p, q, o, b, dx, c1, c2, rfl, hD.same s1, upd_same, by omega, fun H' r b2 hN nr hr => ?_⟩
        exact k H' r (but_pre s1 b2) (hN.back s1) (s1.free nr) hr
    rw [vi_eq] at e
    refine ⟨_, rfl, p, _, dx, _, _, rfl, hD.ins, T.cl_Desk, T.na_Desk_held, dkF_held, _, rfl, ?_⟩
    cases o with
    | none =>
      have hs : Vasedd.step none c = (none, VasedBase.one (-1)) := by
        cases fc <;> first | exact absurd rfl e | rfl
      rw [hs] at k
      refine ifB (fun _ => ?_) (fun z => by cases z)
      refine ⟨_, rfl, by show 1 ≤ sizeLine; decide, fun r nr => ?_⟩
      exact k _ r (But.of (Same.new nr)) (.old (hD.same (Same.new nr))) nr upd_same
    | some h =>
      refine ifB (fun z => by cases z) (fun _ => ?_)
      have look : ∀ (x m : Int), n0 = x → l' = [m] → (Vasedd.step (some h) c).1 = some h → VaseddNeutral.encode (Vasedd.step (some h) c).2 = lookRow x m h.s h.u → tRet (tMeth ad.cDesk "look" (sp_Desk_look ad) [] E0 (tVar 0) (tCons (tVar 2) (tCons (tOp (rIxL K) (tVar 1) (tC (.int 1))) tNil))) { nx := fun _ H' => Q V.non H', rt := Q } [some (.ref p), some (.ref a), some (.int n0)] H := by
        rintro x m rfl rfl h1 h2
        rw [h1, h2] at k
        refine ⟨_, rfl, p, dx, _, rfl, hD.ins, dkF_none _ (by decide +kernel) (by decide +kernel) (by decide +kernel), _, rfl, _, rfl, a, _, 1, .int m, rfl, rfl, SqL.of hA, show atI _ ((1 : Nat) : Int) = _ from atI_nat rfl, ?_⟩
        exact ⟨p, n0, m, h, dx, c1, c2, rfl, hD, fun H' r s1 nr hr => k H' r (But.of s1) (.old (hD.same s1)) nr hr⟩
      have ne : ∀ {n : Int} {A B : Prop}, n0 ≠ n → B → if decide (V.int n0 = V.int n) = true then A else B := fun h b => ifF (fun z => h (vi_eq.mp z)) b
      have eq : ∀ {n : Int} {A B : Prop}, n0 = n → A → if decide (V.int n0 = V.int n) = true then A else B := fun h b => ifT (vi_eq.mpr h) b
      have ll := law_look hD.ok
      have row : ∀ (x m : Int), x ≠ 8 → (if m ≠ 1 ∧ m ≠ 2 then [-3] else lookR x h.s h.u (decide (m = 2))) = lookRow x m h.s h.u := fun x m hx => by
        unfold lookRow
        rw [if_neg hx]
      cases fc with
      | load b lb => exact absurd rfl e
      | other b lb =>
        have cut : cutV ((1 :: (b.length : Int) :: natsI b).map V.int) (some 2) none = vl b := by
          rw [show (some (2 : Int)) = some ((2 : Nat) : Int) from rfl, cut_from]
          exact natsI_v b
        refine ⟨_, rfl, rfl, _, rfl, eq rfl ?_⟩
        refine ⟨_, rfl, p, dx, _, rfl, hD.ins, dkF_none _ (by decide +kernel) (by decide +kernel) (by decide +kernel), _, rfl, _, rfl, a, _, rfl, SqL.of hA, fun q nq => ?_⟩
        rw [cut]
        have s1 := Same.new (o := .lst (vl b)) nq
        refine ⟨p, q, h, b, dx, c1, c2, rfl, hD.same s1, upd_same, by omega, fun H' r b2 hN nr hr => ?_⟩
        exact k H' r (but_pre s1 b2) (hN.back s1) (s1.free nr) hr
      | alike =>
        rw [law_alike hD.ok] at k
        refine ⟨_, rfl, rfl, _, rfl, ne (by decide) ⟨_, rfl, rfl, _, rfl, eq rfl ⟨_, rfl, p, _, dx, _, _, rfl, hD.ins, T.cl_Desk, T.na_Desk_first, dkF_first, _, rfl, p, _, dx, _, _, rfl, hD.ins, T.cl_Desk, T.na_Desk_second, dkF_second, ?_⟩⟩⟩
        exact ⟨c1, c2, h.s, h.u, rfl, hD.fst, hD.snd, hD.ok.ls, hD.ok.lu, hD.ok.ws, hD.ok.wu, hD.ok.few, fun H' r s1 nr hr => k H' r (But.of s1) (.old (hD.same s1)) nr hr⟩
      | same =>
        rw [law_same hD.ok] at k
        refine ⟨_, rfl, rfl, _, rfl, ne (by decide) ⟨_, rfl, rfl, _, rfl, ne (by decide) ⟨_, rfl, rfl, _, rfl, eq rfl ⟨_, rfl, p, _, dx, _, _, rfl, hD.ins, T.cl_Desk, T.na_Desk_first, dkF_first, _, rfl, p, _, dx, _, _, rfl, hD.ins, T.cl_Desk, T.na_Desk_second, dkF_second, ?_⟩⟩⟩⟩
        exact ⟨c1, c2, h.s, h.u, rfl, hD.fst, hD.snd, hD.ok.ls, hD.ok.lu, hD.ok.ws, hD.ok.wu, hD.ok.few, fun H' r s1 nr hr => k H' r (But.of s1) (.old (hD.same s1)) nr hr⟩
      | turn =>
        refine ⟨_, rfl, rfl, _, rfl, ne (by decide) ⟨_, rfl, rfl, _, rfl, ne (by decide) ⟨_, rfl, rfl, _, rfl, ne (by decide) ⟨_, rfl, rfl, _, rfl, eq rfl ?_⟩⟩⟩⟩
        refine ⟨_, rfl, p, dx, _, rfl, hD.ins, dkF_none _ (by decide +kernel) (by decide +kernel) (by decide +kernel), ?_⟩
        exact ⟨p, h, dx, c1, c2, rfl, hD, k⟩
      | apart n => exact ⟨_, rfl, rfl, _, rfl, ne (by decide) ⟨_, rfl, rfl, _, rfl, ne (by decide) ⟨_, rfl, rfl, _, rfl, ne (by decide) ⟨_, rfl, rfl, _, rfl, ne (by decide) (look 3 n rfl rfl rfl ((ll n).1.trans (row 3 n (by decide))))⟩⟩⟩⟩
      | undone n => exact ⟨_, rfl, rfl, _, rfl, ne (by decide) ⟨_, rfl, rfl, _, rfl, ne (by decide) ⟨_, rfl, rfl, _, rfl, ne (by decide) ⟨_, rfl, rfl, _, rfl, ne (by decide) (look 4 n rfl rfl rfl ((ll n).2.1.trans (row 4 n (by decide))))⟩⟩⟩⟩
      | order n => exact ⟨_, rfl, rfl, _, rfl, ne (by decide) ⟨_, rfl, rfl, _, rfl, ne (by decide) ⟨_, rfl, rfl, _, rfl, ne (by decide) ⟨_, rfl, rfl, _, rfl, ne (by decide) (look 5 n rfl rfl rfl ((ll n).2.2.1.trans (row 5 n (by decide))))⟩⟩⟩⟩
      | twice n => exact ⟨_, rfl, rfl, _, rfl, ne (by decide) ⟨_, rfl, rfl, _, rfl, ne (by decide) ⟨_, rfl, rfl, _, rfl, ne (by decide) ⟨_, rfl, rfl, _, rfl, ne (by decide) (look 6 n rfl rfl rfl ((ll n).2.2.2.1.trans (row 6 n (by decide))))⟩⟩⟩⟩
      | looks n => exact ⟨_, rfl, rfl, _, rfl, ne (by decide) ⟨_, rfl, rfl, _, rfl, ne (by decide) ⟨_, rfl, rfl, _, rfl, ne (by decide) ⟨_, rfl, rfl, _, rfl, ne (by decide) (look 8 n rfl rfl rfl ((ll n).2.2.2.2.trans (by unfold lookRow; rw [if_pos (rfl : (8 : Int) = 8)])))⟩⟩⟩⟩
theorem sc_call_end : FnScope N_call_end P_call_end (defScope s_call_end) := ⟨rfl, rfl, rfl, by decide +kernel, rfl, by decide +kernel, by decide +kernel⟩
def sp_call_end (K : PySem.W.Frag) : Sp := fun vs H Q _ => ∃ (a : PySem.Addr) (i : Nat) (L l rest : List Int) (c : Vasedd.Call), vs = [.ref a, .int (i : Int)] ∧ SqL K H a (L.map V.int) ∧ L.drop i = l ++ rest ∧ FC l c ∧ Q (.int ((i + l.length : Nat) : Int)) H
theorem drop_at {α : Type} {L m : List α} {i j : Nat} {x : α} (e : L.drop i = m) (h : m[j]? = some x) : L[i + j]? = some x := by
  rw [← e, List.getElem?_drop] at h
  exact h
theorem ok_call_end (T : Txt K mg ad) : OkD P w K mg base CX0 1 "call_end" P_call_end (sp_call_end K) := by
  obtain ⟨f, fd, hm, F, hb⟩ := T.d_call_end
  refine ⟨f, fd, hm, F.kp, hb, F.ok sc_call_end (fun vs H Q E h => ?_) (fun cdv A outer s H vs Q E hr h => ⟨_, (pss_cons (ps_if (PW.pt (pw_or (pt_cmpR op_eq (pe_ix ix_list (pv 0) (pv 1) (fun _ _ => rfl)) pe_int (nomark _)) (pw_or1 (pt_cmpR op_eq (pe_ix ix_list (pv 0) (pv 1) (fun _ _ => rfl)) pe_int (nomark _)))))
     (pss_one (ps_ret (pe_op op_add (pe_op op_add (pv 1) pe_int) (pe_ix ix_list (pv 0) (pe_op op_add (pv 1) pe_int) (fun _ _ => rfl)))))
     pss_nil)
     (pss_cons (ps_if (PW.pt (pw_or (pt_cmpR op_eq (pe_ix ix_list (pv 0) (pv 1) (fun _ _ => rfl)) pe_int (nomark _)) (pw_or (pt_cmpR op_eq (pe_ix ix_list (pv 0) (pv 1) (fun _ _ => rfl)) pe_int (nomark _)) (pw_or1 (pt_cmpR op_eq (pe_ix ix_list (pv 0) (pv 1) (fun _ _ => rfl)) pe_int (nomark _))))))
     (pss_one (ps_ret (pe_op op_add (pv 1) pe_int)))
     pss_nil)
     (pss_one (ps_ret (pe_op op_add (pv 1) pe_int))))), ?_⟩)⟩
  · obtain ⟨a, i, L, l, rest, c, rfl, _⟩ := h
    rfl
  · obtain ⟨a, i, L, l, rest, c, rfl, hA, eL, fc, k⟩ := h
    obtain ⟨n0, l', rfl⟩ : ∃ n0 l', l = n0 :: l' := by cases fc <;> exact ⟨_, _, rfl⟩
    have at0 : (L.map V.int)[i]? = some (.int n0) := by
      have e := drop_at (j := 0) (x := n0) eL rfl
      rw [List.getElem?_map, show L[i]? = some n0 from e]
      rfl
    have ne : ∀ {n : Int} {A B : Prop}, n0 ≠ n → B → if decide (V.int n0 = V.int n) = true then A else B := fun h b => ifF (fun z => h (vi_eq.mp z)) b
    have eq : ∀ {n : Int} {A B : Prop}, n0 = n → A → if decide (V.int n0 = V.int n) = true then A else B := fun h b => ifT (vi_eq.mpr h) b
    cases fc with
    | load b lb =>
      have at1 : (L.map V.int)[i + 1]? = some (.int (b.length : Int)) := by
        have e := drop_at (j := 1) (x := (b.length : Int)) eL rfl
        rw [List.getElem?_map, e]
        rfl
      have fin : Q (.int ((i : Int) + 2 + (b.length : Int))) H := by
        rw [show ((i : Int) + 2 + (b.length : Int)) = ((i + (0 :: (b.length : Int) :: natsI b).length : Nat) : Int) from by
          rw [List.length_cons, List.length_cons, natsI, List.length_map]
          omega]
        exact k
      exact ⟨_, rfl, _, rfl, a, _, _, _, rfl, rfl, hA, atI_nat at0, rfl, _, rfl, eq rfl (itT ⟨_, rfl, _, _, rfl, rfl, _, rfl, _, rfl, _, _, rfl, rfl, a, _, _, .int (b.length : Int), rfl, rfl, hA, (show atI _ ((i + 1 : Nat) : Int) = _ from atI_nat at1), _, _, rfl, rfl, fin⟩)⟩
    | other b lb =>
      have at1 : (L.map V.int)[i + 1]? = some (.int (b.length : Int)) := by
        have e := drop_at (j := 1) (x := (b.length : Int)) eL rfl
        rw [List.getElem?_map, e]
        rfl
      have fin : Q (.int ((i : Int) + 2 + (b.length : Int))) H := by
        rw [show ((i : Int) + 2 + (b.length : Int)) = ((i + (1 :: (b.length : Int) :: natsI b).length : Nat) : Int) from by
          rw [List.length_cons, List.length_cons, natsI, List.length_map]
          omega]
        exact k
      exact ⟨_, rfl, _, rfl, a, _, _, _, rfl, rfl, hA, atI_nat at0, rfl, _, rfl, ne (by decide) ⟨_, rfl, _, rfl, a, _, _, _, rfl, rfl, hA, atI_nat at0, rfl, _, rfl, eq rfl ⟨_, rfl, _, _, rfl, rfl, _, rfl, _, rfl, _, _, rfl, rfl, a, _, _, .int (b.length : Int), rfl, rfl, hA, (show atI _ ((i + 1 : Nat) : Int) = _ from atI_nat at1), _, _, rfl, rfl, fin⟩⟩⟩
    | alike => exact ⟨_, rfl, _, rfl, a, _, _, _, rfl, rfl, hA, atI_nat at0, rfl, _, rfl, ne (by decide) ⟨_, rfl, _, rfl, a, _, _, _, rfl, rfl, hA, atI_nat at0, rfl, _, rfl, ne (by decide) ⟨_, rfl, _, rfl, a, _, _, _, rfl, rfl, hA, atI_nat at0, rfl, _, rfl, eq rfl (itT ⟨_, rfl, _, _, rfl, rfl, k⟩)⟩⟩⟩
    | same => exact ⟨_, rfl, _, rfl, a, _, _, _, rfl, rfl, hA, atI_nat at0, rfl, _, rfl, ne (by decide) ⟨_, rfl, _, rfl, a, _, _, _, rfl, rfl, hA, atI_nat at0, rfl, _, rfl, ne (by decide) ⟨_, rfl, _, rfl, a, _, _, _, rfl, rfl, hA, atI_nat at0, rfl, _, rfl, ne (by decide) ⟨_, rfl, _, rfl, a, _, _, _, rfl, rfl, hA, atI_nat at0, rfl, _, rfl, eq rfl (itT ⟨_, rfl, _, _, rfl, rfl, k⟩)⟩⟩⟩⟩
    | turn => exact ⟨_, rfl, _, rfl, a, _, _, _, rfl, rfl, hA, atI_nat at0, rfl, _, rfl, ne (by decide) ⟨_, rfl, _, rfl, a, _, _, _, rfl, rfl, hA, atI_nat at0, rfl, _, rfl, ne (by decide) ⟨_, rfl, _, rfl, a, _, _, _, rfl, rfl, hA, atI_nat at0, rfl, _, rfl, ne (by decide) ⟨_, rfl, _, rfl, a, _, _, _, rfl, rfl, hA, atI_nat at0, rfl, _, rfl, ne (by decide) ⟨_, rfl, _, rfl, a, _, _, _, rfl, rfl, hA, atI_nat at0, rfl, _, rfl, eq rfl ⟨_, rfl, _, _, rfl, rfl, k⟩⟩⟩⟩⟩⟩
    | apart n => exact ⟨_, rfl, _, rfl, a, _, _, _, rfl, rfl, hA, atI_nat at0, rfl, _, rfl, ne (by decide) ⟨_, rfl, _, rfl, a, _, _, _, rfl, rfl, hA, atI_nat at0, rfl, _, rfl, ne (by decide) ⟨_, rfl, _, rfl, a, _, _, _, rfl, rfl, hA, atI_nat at0, rfl, _, rfl, ne (by decide) ⟨_, rfl, _, rfl, a, _, _, _, rfl, rfl, hA, atI_nat at0, rfl, _, rfl, ne (by decide) ⟨_, rfl, _, rfl, a, _, _, _, rfl, rfl, hA, atI_nat at0, rfl, _, rfl, ne (by decide) ⟨_, rfl, _, _, rfl, rfl, k⟩⟩⟩⟩⟩⟩
    | undone n => exact ⟨_, rfl, _, rfl, a, _, _, _, rfl, rfl, hA, atI_nat at0, rfl, _, rfl, ne (by decide) ⟨_, rfl, _, rfl, a, _, _, _, rfl, rfl, hA, atI_nat at0, rfl, _, rfl, ne (by decide) ⟨_, rfl, _, rfl, a, _, _, _, rfl, rfl, hA, atI_nat at0, rfl, _, rfl, ne (by decide) ⟨_, rfl, _, rfl, a, _, _, _, rfl, rfl, hA, atI_nat at0, rfl, _, rfl, ne (by decide) ⟨_, rfl, _, rfl, a, _, _, _, rfl, rfl, hA, atI_nat at0, rfl, _, rfl, ne (by decide) ⟨_, rfl, _, _, rfl, rfl, k⟩⟩⟩⟩⟩⟩
    | order n => exact ⟨_, rfl, _, rfl, a, _, _, _, rfl, rfl, hA, atI_nat at0, rfl, _, rfl, ne (by decide) ⟨_, rfl, _, rfl, a, _, _, _, rfl, rfl, hA, atI_nat at0, rfl, _, rfl, ne (by decide) ⟨_, rfl, _, rfl, a, _, _, _, rfl, rfl, hA, atI_nat at0, rfl, _, rfl, ne (by decide) ⟨_, rfl, _, rfl, a, _, _, _, rfl, rfl, hA, atI_nat at0, rfl, _, rfl, ne (by decide) ⟨_, rfl, _, rfl, a, _, _, _, rfl, rfl, hA, atI_nat at0, rfl, _, rfl, ne (by decide) ⟨_, rfl, _, _, rfl, rfl, k⟩⟩⟩⟩⟩⟩
    | twice n => exact ⟨_, rfl, _, rfl, a, _, _, _, rfl, rfl, hA, atI_nat at0, rfl, _, rfl, ne (by decide) ⟨_, rfl, _, rfl, a, _, _, _, rfl, rfl, hA, atI_nat at0, rfl, _, rfl, ne (by decide) ⟨_, rfl, _, rfl, a, _, _, _, rfl, rfl, hA, atI_nat at0, rfl, _, rfl, ne (by decide) ⟨_, rfl, _, rfl, a, _, _, _, rfl, rfl, hA, atI_nat at0, rfl, _, rfl, ne (by decide) ⟨_, rfl, _, rfl, a, _, _, _, rfl, rfl, hA, atI_nat at0, rfl, _, rfl, ne (by decide) ⟨_, rfl, _, _, rfl, rfl, k⟩⟩⟩⟩⟩⟩
    | looks n => exact ⟨_, rfl, _, rfl, a, _, _, _, rfl, rfl, hA, atI_nat at0, rfl, _, rfl, ne (by decide) ⟨_, rfl, _, rfl, a, _, _, _, rfl, rfl, hA, atI_nat at0, rfl, _, rfl, ne (by decide) ⟨_, rfl, _, rfl, a, _, _, _, rfl, rfl, hA, atI_nat at0, rfl, _, rfl, ne (by decide) ⟨_, rfl, _, rfl, a, _, _, _, rfl, rfl, hA, atI_nat at0, rfl, _, rfl, ne (by decide) ⟨_, rfl, _, rfl, a, _, _, _, rfl, rfl, hA, atI_nat at0, rfl, _, rfl, ne (by decide) ⟨_, rfl, _, _, rfl, rfl, k⟩⟩⟩⟩⟩⟩
end
end Lw

/-! all calls -/
namespace Lw
open PySem PySem.Spec PyProof.Rows L2
open VasedBase (Bytes PTok Toks)
open Vaseda (Deed Cmd Script Line)

inductive Segs : List Int → List (List (List Int)) → Prop
  | nil : Segs [] []
  | cons {l r : List Int} {c : List (List Int)} {k : Vasedd.Call} {cs : List (List (List Int))} : FC l k → VaseddNeutral.callOf (PyVasedd.whole c) = some k → Segs r cs → Segs (l ++ r) (c :: cs)
def played (o : Vasedd.Obj) (cs : List (List (List Int))) : List Int := PyFlat.told (PyFlat.played VaseddNeutral.step o (cs.map PyVasedd.whole))
theorem played_cons {o : Vasedd.Obj} {c : List (List Int)} {k : Vasedd.Call} {cs : List (List (List Int))} (h : VaseddNeutral.callOf (PyVasedd.whole c) = some k) :
    played o (c :: cs) = ((VaseddNeutral.encode (Vasedd.step o k).2).length : Int) :: VaseddNeutral.encode (Vasedd.step o k).2 ++ played (Vasedd.step o k).1 cs := by
  have e : VaseddNeutral.step o (PyVasedd.whole c) = ((Vasedd.step o k).1, VaseddNeutral.encode (Vasedd.step o k).2) := by
    unfold VaseddNeutral.step
    rw [h]
  unfold played
  rw [List.map_cons, PyFlat.played, e]
  rfl
theorem DeskAt.but {ad : Ad} {H H' : Hp} {p dx a b t : PySem.Addr} {o : Vasedd.Obj} (h : DeskAt ad H p dx a b o) (A : Apart H t) (bu : But t H H') (np : p ≠ t) (na : a ≠ t) (nb : b ≠ t) : DeskAt ad H' p dx a b o := ⟨bu _ _ np h.ins, h.fst.but A bu na, h.snd.but A bu nb, h.ok⟩
theorem FC.pos {l : List Int} {k : Vasedd.Call} (h : FC l k) : 0 < l.length := by cases h <;> exact Nat.zero_lt_succ _
/-! ### the list of calls read -/
theorem bytes_of {x : List Int} (h : x.all (PyInside.within 0 255) = true) : ∃ b : Bytes, x = natsI b ∧ VaseddNeutral.bytesOf x = b ∧ NeutralIO.bytes x = true := by
  refine ⟨VaseddNeutral.bytesOf x, ?_, rfl, ?_⟩
  · unfold natsI VaseddNeutral.bytesOf
    rw [List.map_map]
    have : ∀ z ∈ x, ((fun c : UInt8 => (c.toNat : Int)) ∘ fun b : Int => UInt8.ofNat b.toNat) z = z := fun z hz => by
      have q := List.all_eq_true.mp h z hz
      unfold PyInside.within at q
      rw [Bool.and_eq_true, decide_eq_true_iff, decide_eq_true_iff] at q
      show ((UInt8.ofNat z.toNat).toNat : Int) = z
      rw [UInt8.toNat_ofNat']
      omega
    conv => lhs; rw [← List.map_id x]
    exact List.map_congr_left fun z hz => (this z hz).symm
  · exact h
/-- a call with one list -/
theorem one_row {p : Int} {r t : List Int} {c : List (List Int)} (hp : p = 0 ∨ p = 1) (h : PyFlat.rows 1 r = some (c, t)) (hb : PyInside.call PyVasedd.bound ([p] :: c) = true) : ∃ b : Bytes, b.length ≤ 8192 ∧ p :: r = (p :: (b.length : Int) :: natsI b) ++ t ∧ c = [natsI b] ∧ VaseddNeutral.bytesOf (natsI b) = b ∧ NeutralIO.bytes (natsI b) = true := by
  rw [PyFlat.rows] at h
  cases r with
  | nil => cases h
  | cons n r =>
    rw [PyFlat.row] at h
    by_cases q : 0 ≤ n ∧ n.toNat ≤ r.length
    · rw [if_pos q] at h
      obtain ⟨rfl, rfl⟩ : [r.take n.toNat] = c ∧ r.drop n.toNat = t := by
        have h' := Prod.mk.inj (Option.some.inj h)
        exact h'
      have lb : (PyVasedd.bound p).2 = [(0, 255, 0, 8192)] := by
        rcases hp with rfl | rfl <;> rfl
      have hl : PyInside.lists (PyVasedd.bound p).2 [r.take n.toNat] = true := by
        unfold PyInside.call at hb
        rw [Bool.and_eq_true] at hb
        exact hb.2
      rw [lb] at hl
      have hl2 : (decide (0 ≤ (r.take n.toNat).length) && decide ((r.take n.toNat).length ≤ 8192) && (r.take n.toNat).all (PyInside.within 0 255) && true) = true := hl
      rw [Bool.and_eq_true, Bool.and_eq_true, Bool.and_eq_true, decide_eq_true_iff, decide_eq_true_iff] at hl2
      obtain ⟨b, e1, e2, e3⟩ := bytes_of hl2.1.2
      have lx : (r.take n.toNat).length = n.toNat := by rw [List.length_take]; omega
      have lbn : b.length = n.toNat := by rw [← lx, e1, natsI, List.length_map]
      refine ⟨b, by rw [lbn, ← lx]; exact hl2.1.1.2, ?_, by rw [e1], by rw [← e1]; exact e2, by rw [← e1]; exact e3⟩
      rw [← e1, lbn, show ((n.toNat : Nat) : Int) = n from by omega]
      show p :: n :: r = p :: n :: (r.take n.toNat ++ r.drop n.toNat)
      rw [List.take_append_drop]
    · rw [if_neg q] at h
      cases h
/-- a call with one number -/
theorem one_num {p : Int} {r t : List Int} {c : List (List Int)} (h : (if r.length < 1 then none else match PyFlat.rows 0 (r.drop 1) with
    | none => none
    | some (xs, t) => some ((p :: r.take 1) :: xs, t)) = some (c, t)) : ∃ n, p :: r = [p, n] ++ t ∧ c = [[p, n]] := by
  cases r with
  | nil => cases h
  | cons n r =>
    have h' := Prod.mk.inj (Option.some.inj (show some (_, _) = some (c, t) from h))
    exact ⟨n, by rw [← h'.2]; rfl, h'.1.symm⟩
/-- a call of none -/
theorem no_num {p : Int} {r t : List Int} {c : List (List Int)} (h : (if r.length < 0 then none else match PyFlat.rows 0 (r.drop 0) with
    | none => none
    | some (xs, t) => some ((p :: r.take 0) :: xs, t)) = some (c, t)) : p :: r = [p] ++ t ∧ c = [[p]] := by
  rw [if_neg (Nat.not_lt_zero _)] at h
  have h' := Prod.mk.inj (Option.some.inj (show some (_, _) = some (c, t) from h))
  exact ⟨by rw [← h'.2]; rfl, h'.1.symm⟩
theorem call_of {p : Int} {r t : List Int} {c : List (List Int)} (h : PyFlat.call PyVasedd.shape (p :: r) = some (c, t)) (hb : PyInside.call PyVasedd.bound c = true) : ∃ (l0 : List Int) (k : Vasedd.Call), p :: r = l0 ++ t ∧ FC l0 k ∧ VaseddNeutral.callOf (PyVasedd.whole c) = some k := by
  have rw1 : p = 0 ∨ p = 1 → ∃ c', PyFlat.rows 1 r = some (c', t) ∧ c = [p] :: c' := by
    intro hp
    have sh : PyVasedd.shape p = some (0, 1) := by rcases hp with rfl | rfl <;> rfl
    rw [PyFlat.call, sh] at h
    dsimp only at h
    rw [if_neg (Nat.not_lt_zero _)] at h
    cases e : PyFlat.rows 1 (r.drop 0) with
    | none => rw [e] at h; cases h
    | some ct =>
      obtain ⟨c', t'⟩ := ct
      rw [e] at h
      have h' := Prod.mk.inj (Option.some.inj h)
      refine ⟨c', ?_, h'.1.symm⟩
      rw [← h'.2]
      exact e
  by_cases h0 : p = 0
  · obtain ⟨c', e, rfl⟩ := rw1 (.inl h0)
    obtain ⟨b, lb, el, rfl, e1, e2⟩ := one_row (.inl h0) e hb
    subst h0
    refine ⟨_, .load b, el, .load b lb, ?_⟩
    show (if NeutralIO.bytes (natsI b) = true then some (Vasedd.Call.load (VaseddNeutral.bytesOf (natsI b))) else none) = _
    rw [if_pos e2, e1]
  by_cases h1 : p = 1
  · obtain ⟨c', e, rfl⟩ := rw1 (.inr h1)
    obtain ⟨b, lb, el, rfl, e1, e2⟩ := one_row (.inr h1) e hb
    subst h1
    refine ⟨_, .other b, el, .other b lb, ?_⟩
    show (if NeutralIO.bytes (natsI b) = true then some (Vasedd.Call.other (VaseddNeutral.bytesOf (natsI b))) else none) = _
    rw [if_pos e2, e1]
  rw [PyFlat.call] at h
  have num : PyVasedd.shape p = some (1, 0) → ∃ n, p :: r = [p, n] ++ t ∧ c = [[p, n]] := fun sh => by
    rw [sh] at h
    exact one_num h
  have non : PyVasedd.shape p = some (0, 0) → p :: r = [p] ++ t ∧ c = [[p]] := fun sh => by
    rw [sh] at h
    exact no_num h
  by_cases h2 : p = 2
  · subst h2
    obtain ⟨el, rfl⟩ := non rfl
    exact ⟨_, .alike, el, .alike, rfl⟩
  by_cases h3 : p = 3
  · subst h3
    obtain ⟨n, el, rfl⟩ := num rfl
    exact ⟨_, .apart n, el, .apart n, rfl⟩
  by_cases h4 : p = 4
  · subst h4
    obtain ⟨n, el, rfl⟩ := num rfl
    exact ⟨_, .undone n, el, .undone n, rfl⟩
  by_cases h5 : p = 5
  · subst h5
    obtain ⟨n, el, rfl⟩ := num rfl
    exact ⟨_, .order n, el, .order n, rfl⟩
  by_cases h6 : p = 6
  · subst h6
    obtain ⟨n, el, rfl⟩ := num rfl
    exact ⟨_, .twice n, el, .twice n, rfl⟩
  by_cases h7 : p = 7
  · subst h7
    obtain ⟨el, rfl⟩ := non rfl
    exact ⟨_, .same, el, .same, rfl⟩
  by_cases h8 : p = 8
  · subst h8
    obtain ⟨n, el, rfl⟩ := num rfl
    exact ⟨_, .looks n, el, .looks n, rfl⟩
  by_cases h9 : p = 9
  · subst h9
    obtain ⟨el, rfl⟩ := non rfl
    exact ⟨_, .turn, el, .turn, rfl⟩
  exfalso
  have sh : PyVasedd.shape p = none := by
    unfold PyVasedd.shape
    rw [if_neg h0, if_neg h1, if_neg h2, if_neg h3, if_neg h4, if_neg h5, if_neg h6, if_neg h7, if_neg h8, if_neg h9]
  rw [sh] at h
  cases h
theorem segs_of : ∀ (n : Nat) (l : List Int) (cs : List (List (List Int))), PyFlat.calls PyVasedd.shape n l = some cs → PyInside.calls PyVasedd.bound cs = true → Segs l cs := by
  intro n
  induction n with
  | zero =>
    intro l cs h _
    cases l with
    | nil =>
      obtain rfl : [] = cs := Option.some.inj h
      exact .nil
    | cons p r => cases h
  | succ n ih =>
    intro l cs h hb
    cases l with
    | nil =>
      obtain rfl : [] = cs := Option.some.inj h
      exact .nil
    | cons p r =>
      rw [PyFlat.calls] at h
      cases e : PyFlat.call PyVasedd.shape (p :: r) with
      | none => rw [e] at h; cases h
      | some ct =>
        obtain ⟨c, t⟩ := ct
        rw [e] at h
        dsimp only at h
        cases e2 : PyFlat.calls PyVasedd.shape n t with
        | none => rw [e2] at h; cases h
        | some cs' =>
          rw [e2] at h
          obtain rfl : c :: cs' = cs := Option.some.inj h
          have hb' : PyInside.call PyVasedd.bound c = true ∧ PyInside.calls PyVasedd.bound cs' = true := by
            unfold PyInside.calls at hb
            rw [List.all_cons, Bool.and_eq_true] at hb
            exact hb
          have st := ih t cs' e2 hb'.2
          -- the call itself
          obtain ⟨l0, k, el, fc, ck⟩ := call_of e hb'.1
          rw [el]
          exact .cons fc ck st
section
variable {P : Program} {w : World} {K : PySem.W.Frag} {mg : Str → Option Value} {base : Heap} {ad : Ad}
theorem sc_answers : FnScope N_answers P_answers (defScope s_answers) := ⟨rfl, rfl, rfl, by decide +kernel, rfl, by decide +kernel, by decide +kernel⟩
def sp_answers (K : PySem.W.Frag) : Sp := fun vs H Q _ => ∃ (a : PySem.Addr) (L : List Int) (cs : List (List (List Int))), vs = [.ref a] ∧ SqL K H a (L.map V.int) ∧ L.length ≤ 20000 ∧ Segs L cs ∧ (played none cs).length ≤ 10000000 ∧ ∀ H' p, RowL H' p (played none cs) → Q (.ref p) H'
theorem fn_answers (T : Txt K mg ad) {f : PySem.Addr} {fd : FuncData} (F : Fun K "answers" "answers" s_answers f fd) : FnOk P w K mg base CX0 13 f fd P_answers (sp_answers K) := by
  have G_Desk : OkI P w K mg base CX0 1 ad.cDesk "Desk" P_Desk_init (sp_Desk_init ad) := ok_Desk_init T
  have G_call_end : OkD P w K mg base CX0 1 "call_end" P_call_end (sp_call_end K) := ok_call_end T
  have G_Desk_answer : OkM P w K mg base CX0 12 ad.cDesk "answer" P_Desk_answer (sp_Desk_answer ad) := ok_Desk_answer T
  refine F.ok sc_answers (fun vs H Q E h => ?_) (fun cdv A outer s H vs Q E hr h => ⟨_, (pss_cons (ps_set (i := 1) sc_answers.nd rfl (Or.inl rfl) (pe_makeD0 (G_Desk) (hr.mono (by decide)) pass0))
     (pss_cons (ps_set (i := 2) sc_answers.nd rfl (Or.inl rfl) (pe_lst pa_nil))
     (pss_cons (ps_set (i := 3) sc_answers.nd rfl (Or.inl rfl) pe_int)
     (pss_cons (ps_while PassesOwn.never (pt_cmpR op_lt (pv 3) (pe_callB call_len_seq (by rfl) T.n_len PySem.boot_len (pa_cons (pv 0) pa_nil)) (nomark _))
     (pss_cons (ps_set (i := 4) sc_answers.nd rfl (Or.inl rfl) (pe_callD (G_call_end) (hr.mono (by decide)) pass0 (pa_cons (pv 0) (pa_cons (pv 3) pa_nil))))
     (pss_cons (ps_set (i := 5) sc_answers.nd rfl (Or.inl rfl) (pe_methD (pv 1) T.cl_Desk (G_Desk_answer) (hr.mono (by decide)) pass0 (pa_cons (pe_slice sl_list (pv 0) (po_some (pv 3)) (po_some (pv 4))) pa_nil)))
     (pss_cons (ps_expr (pe_bm PySem.F.plainAttrs_list PySem.F.slot_list_append PySem.F.type_list_append mt_append (pv 2) (pa_cons (pe_callB call_len_seq (by rfl) T.n_len PySem.boot_len (pa_cons (pv 5) pa_nil)) pa_nil)))
     (pss_cons (ps_expr (pe_bm PySem.F.plainAttrs_list PySem.F.slot_list_extend PySem.F.type_list_extend mt_extend (pv 2) (pa_cons (pv 5) pa_nil)))
     (pss_one (ps_set (i := 3) sc_answers.nd rfl (Or.inl rfl) (pv 4))))))))
     (pss_one (ps_ret (pv 2))))))), ?_⟩)
  · obtain ⟨a, L, cs, rfl, _⟩ := h
    rfl
  · obtain ⟨a, L, cs, rfl, hA, lL, sg, lt, k⟩ := h
    refine fun p dx np ndx nep => ?_
    have s1 : Same H (upd (upd H dx (.own p)) p (.ins ad.cDesk dx [])) := mk_same np ndx fun _ _ _ h => h
    refine ⟨p, dx, rfl, upd_same, fun H1 b1 hE => ⟨rfl, ?_⟩⟩
    have s2 : Same H H1 := mk_same np ndx b1
    obtain ⟨dx1, c1, c2, hD⟩ := hE
    refine ⟨by show 0 ≤ sizeLine; decide, fun t nt => ?_⟩
    have s3 := Same.new (o := .lst []) nt
    have npt : p ≠ t := ne_of_none hD.ins nt
    have n1 : c1 ≠ t := by obtain ⟨_, e, _⟩ := hD.fst; exact ne_of_none e nt
    have n2 : c2 ≠ t := by obtain ⟨_, e, _⟩ := hD.snd; exact ne_of_none e nt
    have sm3 : Same H (upd H1 t (.lst [])) := s2.trans s3
    have nt0 : H t = none := s2.free nt
    have hD3 := hD.same s3
    have hT3 : RowL (upd H1 t (.lst [])) t [] := upd_same
    generalize upd H1 t (.lst []) = H3 at *
    clear s1 s2 s3 b1 hD nt
    refine ⟨fun m σ H' => ∃ (i : Nat) (rs : List (List (List Int))) (o : Vasedd.Obj) (acc : List Int) (v4 v5 : Option V) (dx c1 c2 : PySem.Addr), m = L.length - i ∧ σ = [some (.ref a), some (.ref p), some (.ref t), some (.int (i : Int)), v4, v5] ∧ Same H H' ∧ DeskAt ad H' p dx c1 c2 o ∧ c1 ≠ t ∧ c2 ≠ t ∧ RowL H' t acc ∧ Segs (L.drop i) rs ∧ i ≤ L.length ∧ played none cs = acc ++ played o rs,
      ⟨_, 0, cs, none, [], none, none, dx1, c1, c2, rfl, rfl, sm3, hD3, n1, n2, hT3, sg, Nat.zero_le _, rfl⟩, ?_⟩
    rintro m σ H' ⟨i, rs, o, acc, v4, v5, dx, c1, c2, rfl, rfl, sm, hD, n1, n2, hT, sg', hi, tot⟩
    have hA' := sm.seq hA
    refine ⟨_, rfl, _, rfl, a, _, rfl, .inl hA', _, _, rfl, rfl, _, rfl, ?_⟩
    rw [List.length_map]
    refine ifP (fun e => ?_) (fun e => ?_)
    · have hlt : i < L.length := by omega
      cases hd : L.drop i with
      | nil =>
        have := congrArg List.length hd
        rw [List.length_drop] at this
        have : L.length - i = 0 := this
        omega
      | cons x0 r0 =>
      rw [hd] at sg'
      generalize hm' : x0 :: r0 = mm at *
      cases sg' with
      | nil => cases hm'
      | @cons l rest c kc rs' fc ck sr =>
      have lpos := fc.pos
      have ll : l.length + rest.length = L.length - i := by rw [← List.length_drop, hd, List.length_append]
      refine ⟨fun σ' H'' => ∃ (i' : Nat) (rs : List (List (List Int))) (o : Vasedd.Obj) (acc : List Int) (v4 v5 : Option V) (dx c1 c2 : PySem.Addr), L.length - i' < L.length - i ∧ σ' = [some (.ref a), some (.ref p), some (.ref t), some (.int (i' : Int)), v4, v5] ∧ Same H H'' ∧ DeskAt ad H'' p dx c1 c2 o ∧ c1 ≠ t ∧ c2 ≠ t ∧ RowL H'' t acc ∧ Segs (L.drop i') rs ∧ i' ≤ L.length ∧ played none cs = acc ++ played o rs,
        fun σ' H'' ⟨i', rs, o, acc, v4, v5, dx, c1, c2, q1, q⟩ => ⟨_, q1, i', rs, o, acc, v4, v5, dx, c1, c2, rfl, q⟩, ?_⟩
      refine ⟨_, rfl, _, rfl, a, i, L, l, rest, kc, rfl, hA', hd, fc, ?_⟩
      have cut : cutV (L.map V.int) (some (i : Int)) (some ((i + l.length : Nat) : Int)) = l.map V.int := by
        rw [cut_nat (by rw [List.length_map]; omega), ← List.map_drop, hd, Nat.add_sub_cancel_left, List.map_append, List.take_left' (by rw [List.length_map])]
      refine ⟨_, rfl, p, dx, _, rfl, hD.ins, dkF_none _ (by decide +kernel) (by decide +kernel) (by decide +kernel), _, rfl, _, rfl, _, rfl, _, rfl, _, rfl, a, _, rfl, hA', fun q nq => ?_⟩
      rw [cut]
      have s4 := Same.new (o := .lst (l.map V.int)) nq
      refine ⟨p, q, o, l, kc, dx, c1, c2, rfl, hD.same s4, upd_same, fc, fun H2 r b2 hN nr hr => ?_⟩
      obtain ⟨dx', c1', c2', hD2, f1, f2⟩ := hN
      have hT4 := hT.same s4
      have fr : ∀ x, Frs (upd H' q (.lst (l.map V.int))) c1 c2 x → x ≠ t := fun x f => by
        rcases f with f | f | f
        · rw [f]; exact n1
        · rw [f]; exact n2
        · intro z
          rw [z, hT4] at f
          cases f
      have m1 := fr c1' f1
      have m2 := fr c2' f2
      have nrt : r ≠ t := fun z => by
        rw [z, hT4] at nr
        cases nr
      have hT2 : RowL H2 t acc := b2 _ _ npt.symm hT4
      have sm2 : Same H H2 := fun c u h => b2 c u (ne_of_none h np) (s4 c u (sm c u h))
      rw [played_cons ck] at tot
      have ltot := congrArg List.length tot
      rw [List.length_append, List.length_append, List.length_cons] at ltot
      have big : 10000000 < sizeLine := by decide
      generalize VaseddNeutral.encode (Vasedd.step o kc).2 = row at *
      have Al := Apart.lst hT2
      have bu := But.upd (d := t) (H := H2) (o := .lst (acc.map V.int ++ [.int (row.length : Int)]))
      refine ⟨_, rfl, tyL hT2, _, rfl, r, _, rfl, SqLo hr, ?_⟩
      rw [List.length_map]
      refine ⟨t, _, _, rfl, rfl, hT2, by rw [List.length_map]; omega, ?_⟩
      have hT5 : upd H2 t (.lst (acc.map V.int ++ [.int (row.length : Int)])) t = some (.lst ((acc ++ [(row.length : Int)]).map V.int)) := upd_same.trans (by rw [List.map_append]; rfl)
      have hr5 := bu _ _ nrt hr
      have sm5 : Same H (upd H2 t (.lst (acc.map V.int ++ [.int (row.length : Int)]))) := Same.mut sm2 nt0
      have hD5 := hD2.but Al bu npt m1 m2
      generalize upd H2 t (.lst (acc.map V.int ++ [.int (row.length : Int)])) = H5 at *
      have Al5 := Apart.lst hT5
      have bu5 := But.upd (d := t) (H := H5) (o := .lst ((acc ++ [(row.length : Int)]).map V.int ++ row.map V.int))
      refine ⟨_, rfl, tyL hT5, _, rfl, t, r, _, _, rfl, rfl, hT5, hr5, by rw [List.length_map, List.length_map, List.length_append]; show acc.length + 1 + row.length ≤ _; omega, ?_⟩
      refine ⟨_, rfl, i + l.length, rs', _, acc ++ (row.length : Int) :: row, _, _, dx', c1', c2', by omega, rfl, Same.mut sm5 nt0, hD5.but Al5 bu5 npt m1 m2, m1, m2, upd_same.trans ?_, ?_, by omega, ?_⟩
      · rw [← List.map_append, List.append_assoc]
        rfl
      · rw [← List.drop_drop, hd, List.drop_left]
        exact sr
      · rw [tot, List.append_assoc]
    · have : i = L.length := by omega
      subst this
      rw [List.drop_length] at sg'
      generalize hm' : ([] : List Int) = mm at sg'
      cases sg' with
      | cons fc _ _ =>
        have := congrArg List.length hm'
        rw [List.length_append] at this
        have := fc.pos
        rw [List.length_nil] at *
        omega
      | nil =>
        have e0 : played none cs = acc := by
          rw [tot]
          exact List.append_nil acc
        rw [e0] at k
        exact ⟨_, rfl, k H' t hT⟩
end
end Lw

/-! what the top has written -/
namespace Lw
open PySem PySem.Spec PyProof.Rows L2
def ownS : List Str := ["if", "all", "line", "from", "to", "last", "has", "is", "not", "delete", "before", "after", "change", "swap", "first", "keep", "bring", "trade", "skip", "stop", "none"]
theorem vals_str : ∀ (xs : List Str) (l : List Value), l.map L2.absV = (xs.map fun s => some (V.str s)) → Vals (xs.map V.str) l
  | [], [], _ => .nil
  | [], _ :: _, h => by cases h
  | _ :: _, [], h => by cases h
  | x :: xs, u :: l, h => by
    have h' := List.cons.inj (show L2.absV u :: l.map L2.absV = some (V.str x) :: xs.map (fun s => some (V.str s)) from h)
    refine .cons ?_ (vals_str xs l h'.2)
    have e := h'.1
    cases u with
    | str y t =>
      have e' : y = x := V.str.inj (Option.some.inj e)
      exact ⟨t, by rw [e']⟩
    | none => cases e
    | bool b => cases e
    | int i t => cases e
    | bytes b t => cases e
    | float b t => cases e
    | ref a => cases e
    | type n => cases e
    | _ => cases e
theorem own_sq {K : PySem.W.Frag} {ow : PySem.Addr} {H : Hp} {od : Option PySem.Addr} {it : Array Value} {n : Nat} {sl : Array (Option Value)} (l : K.lookup ow = some ⟨.type "tuple", od, .seq it n, sl⟩) (hv : it.toList.map L2.absV = ownS.map fun s => some (.str s)) : SqT K H ow ownV := by
  have v := vals_str ownS it.toList hv
  refine .inr ⟨_, it, n, l, rfl, rfl, ?_, v⟩
  have e := congrArg List.length hv
  rw [List.length_map, List.length_map, Array.length_toList] at e
  rw [e]
  decide
/-- an error of the class at S is what «except S» names -/
theorem exm_self {K : PySem.W.Frag} {S : PySem.Addr} (h1 : PySem.W.subIn K (.ref S) (.type "BaseException") = some true) (h2 : PySem.W.isClsIn K S = true) (h3 : PySem.W.typeIn K (.ref S) = some (.type "type")) (h4 : PySem.W.subIn K (.ref S) (.ref S) = some true) :
    PySem.W.exmOne K (.ref S) (.ref S) = some true := by
  have e1 : (PySem.W.subIn K (.ref S) (.type "BaseException") == some true) = true := by rw [h1] <;> rfl
  have e2 : ((PySem.W.clsIn K S).isSome && PySem.W.typeIn K (.ref S) == some (.type "type")) = true := by
    have h2' : (PySem.W.clsIn K S).isSome = true := h2
    rw [h2', h3] <;> rfl
  show (if (PySem.W.subIn K (.ref S) (.type "BaseException") == some true) = true then (if ((PySem.W.clsIn K S).isSome && PySem.W.typeIn K (.ref S) == some (.type "type")) = true then PySem.W.subIn K (.ref S) (.ref S) else none) else none) = some true
  rw [if_pos e1, if_pos e2]
  exact h4
theorem all_mk {P : Program} {w : World} {K : PySem.W.Frag} {h : Heap} {mg : Str → Option Value} {fa : PySem.Addr} (X : K.In h) (G : h.Ns mainGlobals mg) (hfa : mg "answers" = some (.ref fa))
    {cFault cToken cAddress cDeed cReader cRunner cDesk ow : PySem.Addr}
    {tk0 tk1 tk2 tk3 tk4 tk5 tk6 tk7 tk8 tk9 tk10 tk11 tk12 tk13 tk14 tk15 tk16 tk17 tk18 tk19 tk20 tk21 tk22 tk23 tk24 : PySem.Tok}
    {odO : Option PySem.Addr} {itO : Array Value} {nO : Nat} {slO : Array (Option Value)}
    {nm q : Str} {N : PySem.Addr} {bs : List Value} {sn : List Str} {sub : List Value} {ab : Bool} {col : Option Bool} {dd : Option PySem.Addr} {m0 m1 m2 m3 m5 : Option Value}
    {f0 f1 f2 f3 f4 f5 f6 f7 f8 f9 f10 f11 f12 f13 f14 f15 f16 f17 f18 f19 f20 f21 f22 f23 f24 f25 f26 f27 f28 f29 f30 f31 f32 f33 f34 f35 f36 f37 f38 f39 f40 f41 f42 f43 f44 f45 f46 f47 f48 f49 f50 f51 f52 f53 f54 f55 f56 f57 f58 f59 f60 f61 f62 f63 f64 f65 f66 f67 f68 f69 f70 f71 f72 f73 f74 f75 f76 f77 : PySem.Addr}
    {od0 an0 od1 an1 od2 an2 od3 an3 od4 an4 od5 an5 od6 an6 od7 an7 od8 an8 od9 an9 od10 an10 od11 an11 od12 an12 od13 an13 od14 an14 od15 an15 od16 an16 od17 an17 od18 an18 od19 an19 od20 an20 od21 an21 od22 an22 od23 an23 od24 an24 od25 an25 od26 an26 od27 an27 od28 an28 od29 an29 od30 an30 od31 an31 od32 an32 od33 an33 od34 an34 od35 an35 od36 an36 od37 an37 od38 an38 od39 an39 od40 an40 od41 an41 od42 an42 od43 an43 od44 an44 od45 an45 od46 an46 od47 an47 od48 an48 od49 an49 od50 an50 od51 an51 od52 an52 od53 an53 od54 an54 od55 an55 od56 an56 od57 an57 od58 an58 od59 an59 od60 an60 od61 an61 od62 an62 od63 an63 od64 an64 od65 an65 od66 an66 od67 an67 od68 an68 od69 an69 od70 an70 od71 an71 od72 an72 od73 an73 od74 an74 od75 an75 od76 an76 od77 an77 : Option PySem.Addr}
    {sl0 sl1 sl2 sl3 sl4 sl5 sl6 sl7 sl8 sl9 sl10 sl11 sl12 sl13 sl14 sl15 sl16 sl17 sl18 sl19 sl20 sl21 sl22 sl23 sl24 sl25 sl26 sl27 sl28 sl29 sl30 sl31 sl32 sl33 sl34 sl35 sl36 sl37 sl38 sl39 sl40 sl41 sl42 sl43 sl44 sl45 sl46 sl47 sl48 sl49 sl50 sl51 sl52 sl53 sl54 sl55 sl56 sl57 sl58 sl59 sl60 sl61 sl62 sl63 sl64 sl65 sl66 sl67 sl68 sl69 sl70 sl71 sl72 sl73 sl74 sl75 sl76 sl77 : Array (Option Value)}
    {oc0 kV0 dc0 pm0 cd0 ct0 oc1 kV1 dc1 pm1 cd1 ct1 oc2 kV2 dc2 pm2 cd2 ct2 oc3 kV3 dc3 pm3 cd3 ct3 oc4 kV4 dc4 pm4 cd4 ct4 oc5 kV5 dc5 pm5 cd5 ct5 oc6 kV6 dc6 pm6 cd6 ct6 oc7 kV7 dc7 pm7 cd7 ct7 oc8 kV8 dc8 pm8 cd8 ct8 oc9 kV9 dc9 pm9 cd9 ct9 oc10 kV10 dc10 pm10 cd10 ct10 oc11 kV11 dc11 pm11 cd11 ct11 oc12 kV12 dc12 pm12 cd12 ct12 oc13 kV13 dc13 pm13 cd13 ct13 oc14 kV14 dc14 pm14 cd14 ct14 oc15 kV15 dc15 pm15 cd15 ct15 oc16 kV16 dc16 pm16 cd16 ct16 oc17 kV17 dc17 pm17 cd17 ct17 oc18 kV18 dc18 pm18 cd18 ct18 oc19 kV19 dc19 pm19 cd19 ct19 oc20 kV20 dc20 pm20 cd20 ct20 oc21 kV21 dc21 pm21 cd21 ct21 oc22 kV22 dc22 pm22 cd22 ct22 oc23 kV23 dc23 pm23 cd23 ct23 oc24 kV24 dc24 pm24 cd24 ct24 oc25 kV25 dc25 pm25 cd25 ct25 oc26 kV26 dc26 pm26 cd26 ct26 oc27 kV27 dc27 pm27 cd27 ct27 oc28 kV28 dc28 pm28 cd28 ct28 oc29 kV29 dc29 pm29 cd29 ct29 oc30 kV30 dc30 pm30 cd30 ct30 oc31 kV31 dc31 pm31 cd31 ct31 oc32 kV32 dc32 pm32 cd32 ct32 oc33 kV33 dc33 pm33 cd33 ct33 oc34 kV34 dc34 pm34 cd34 ct34 oc35 kV35 dc35 pm35 cd35 ct35 oc36 kV36 dc36 pm36 cd36 ct36 oc37 kV37 dc37 pm37 cd37 ct37 oc38 kV38 dc38 pm38 cd38 ct38 oc39 kV39 dc39 pm39 cd39 ct39 oc40 kV40 dc40 pm40 cd40 ct40 oc41 kV41 dc41 pm41 cd41 ct41 oc42 kV42 dc42 pm42 cd42 ct42 oc43 kV43 dc43 pm43 cd43 ct43 oc44 kV44 dc44 pm44 cd44 ct44 oc45 kV45 dc45 pm45 cd45 ct45 oc46 kV46 dc46 pm46 cd46 ct46 oc47 kV47 dc47 pm47 cd47 ct47 oc48 kV48 dc48 pm48 cd48 ct48 oc49 kV49 dc49 pm49 cd49 ct49 oc50 kV50 dc50 pm50 cd50 ct50 oc51 kV51 dc51 pm51 cd51 ct51 oc52 kV52 dc52 pm52 cd52 ct52 oc53 kV53 dc53 pm53 cd53 ct53 oc54 kV54 dc54 pm54 cd54 ct54 oc55 kV55 dc55 pm55 cd55 ct55 oc56 kV56 dc56 pm56 cd56 ct56 oc57 kV57 dc57 pm57 cd57 ct57 oc58 kV58 dc58 pm58 cd58 ct58 oc59 kV59 dc59 pm59 cd59 ct59 oc60 kV60 dc60 pm60 cd60 ct60 oc61 kV61 dc61 pm61 cd61 ct61 oc62 kV62 dc62 pm62 cd62 ct62 oc63 kV63 dc63 pm63 cd63 ct63 oc64 kV64 dc64 pm64 cd64 ct64 oc65 kV65 dc65 pm65 cd65 ct65 oc66 kV66 dc66 pm66 cd66 ct66 oc67 kV67 dc67 pm67 cd67 ct67 oc68 kV68 dc68 pm68 cd68 ct68 oc69 kV69 dc69 pm69 cd69 ct69 oc70 kV70 dc70 pm70 cd70 ct70 oc71 kV71 dc71 pm71 cd71 ct71 oc72 kV72 dc72 pm72 cd72 ct72 oc73 kV73 dc73 pm73 cd73 ct73 oc74 kV74 dc74 pm74 cd74 ct74 oc75 kV75 dc75 pm75 cd75 ct75 oc76 kV76 dc76 pm76 cd76 ct76 oc77 kV77 dc77 pm77 cd77 ct77 : Value}
    (g0 : PySem.W.nsIn K mainGlobals "IF" = some (some (.int 0 tk0)))
    (g1 : PySem.W.nsIn K mainGlobals "ALL" = some (some (.int 1 tk1)))
    (g2 : PySem.W.nsIn K mainGlobals "LINE" = some (some (.int 2 tk2)))
    (g3 : PySem.W.nsIn K mainGlobals "FROM" = some (some (.int 3 tk3)))
    (g4 : PySem.W.nsIn K mainGlobals "TO" = some (some (.int 4 tk4)))
    (g5 : PySem.W.nsIn K mainGlobals "LAST" = some (some (.int 5 tk5)))
    (g6 : PySem.W.nsIn K mainGlobals "HAS" = some (some (.int 6 tk6)))
    (g7 : PySem.W.nsIn K mainGlobals "IS" = some (some (.int 7 tk7)))
    (g8 : PySem.W.nsIn K mainGlobals "NOT" = some (some (.int 8 tk8)))
    (g9 : PySem.W.nsIn K mainGlobals "DELETE" = some (some (.int 9 tk9)))
    (g10 : PySem.W.nsIn K mainGlobals "BEFORE" = some (some (.int 10 tk10)))
    (g11 : PySem.W.nsIn K mainGlobals "AFTER" = some (some (.int 11 tk11)))
    (g12 : PySem.W.nsIn K mainGlobals "CHANGE" = some (some (.int 12 tk12)))
    (g13 : PySem.W.nsIn K mainGlobals "SWAP" = some (some (.int 13 tk13)))
    (g14 : PySem.W.nsIn K mainGlobals "FIRST" = some (some (.int 14 tk14)))
    (g15 : PySem.W.nsIn K mainGlobals "KEEP" = some (some (.int 15 tk15)))
    (g16 : PySem.W.nsIn K mainGlobals "BRING" = some (some (.int 16 tk16)))
    (g17 : PySem.W.nsIn K mainGlobals "TRADE" = some (some (.int 17 tk17)))
    (g18 : PySem.W.nsIn K mainGlobals "SKIP" = some (some (.int 18 tk18)))
    (g19 : PySem.W.nsIn K mainGlobals "STOP" = some (some (.int 19 tk19)))
    (g20 : PySem.W.nsIn K mainGlobals "NONE" = some (some (.int 20 tk20)))
    (g21 : PySem.W.nsIn K mainGlobals "LETTERS" = some (some (.int 21 tk21)))
    (g22 : PySem.W.nsIn K mainGlobals "NUMBER" = some (some (.int 22 tk22)))
    (g23 : PySem.W.nsIn K mainGlobals "SEMICOLON" = some (some (.int 23 tk23)))
    (g24 : PySem.W.nsIn K mainGlobals "END" = some (some (.int 24 tk24)))
    (z0 : PySem.W.nsIn K mainGlobals "len" = some none)
    (z1 : PySem.W.nsIn K mainGlobals "range" = some none)
    (z2 : PySem.W.nsIn K mainGlobals "ord" = some none)
    (z3 : PySem.W.nsIn K mainGlobals "tuple" = some none)
    (z4 : PySem.W.nsIn K mainGlobals "list" = some none)
    (z5 : PySem.W.nsIn K mainGlobals "int" = some none)
    (aO : PySem.W.nsIn K mainGlobals "OWN_WORDS" = some (some (.ref ow)))
    (lO : K.lookup ow = some ⟨.type "tuple", odO, .seq itO nO, slO⟩)
    (hv : itO.toList.map L2.absV = ownS.map fun s => some (.str s))
    (aF : PySem.W.nsIn K mainGlobals "Fault" = some (some (.ref cFault)))
    (xL : K.lookup cFault = some (excClassObj nm q cFault N bs exRest true sn sub ab col dd m0 m1 m2 m3 m5 "Exception.__new__"))
    (sa : PySem.W.findIn K (.ref cFault) "__setattr__" = some (some (.builtin "object.__setattr__")))
    (ga : PySem.W.findIn K (.ref cFault) "__getattribute__" = some (some (.builtin "BaseException.__getattribute__")))
    (gg : PySem.W.findIn K (.ref cFault) "__getattr__" = some none)
    (nC : PySem.W.findIn K (.ref cFault) "code" = some none)
    (nP : PySem.W.findIn K (.ref cFault) "place" = some none)
    (eC : PySem.W.subIn K (.ref cFault) (.type "BaseException") = some true)
    (tC : PySem.W.typeIn K (.ref cFault) = some (.type "type"))
    (hC : PySem.W.hasDictIn K cFault = true)
    (iC : PySem.W.isClsIn K cFault = true)
    (sC : PySem.W.subIn K (.ref cFault) (.ref cFault) = some true)
    (kC : PySem.W.keepIn K (.ref cFault) = true)
    (aToken : PySem.W.nsIn K mainGlobals "Token" = some (some (.ref cToken)))
    (pgToken : PySem.W.plainGet K cToken Str.empty = true)
    (hdToken : PySem.W.hasDictIn K cToken = true)
    (poToken : PySem.W.plainOver K cToken = true)
    (saToken : PySem.W.findIn K (.ref cToken) "__setattr__" = some (some (.builtin "object.__setattr__")))
    (mkToken : PySem.W.makesIn K cToken = true)
    (kcToken : PySem.W.keepIn K (.ref cToken) = true)
    (nToken_what : PySem.W.findIn K (.ref cToken) "what" = some none)
    (nToken_place : PySem.W.findIn K (.ref cToken) "place" = some none)
    (nToken_word : PySem.W.findIn K (.ref cToken) "word" = some none)
    (nToken_amount : PySem.W.findIn K (.ref cToken) "amount" = some none)
    (aAddress : PySem.W.nsIn K mainGlobals "Address" = some (some (.ref cAddress)))
    (pgAddress : PySem.W.plainGet K cAddress Str.empty = true)
    (hdAddress : PySem.W.hasDictIn K cAddress = true)
    (poAddress : PySem.W.plainOver K cAddress = true)
    (saAddress : PySem.W.findIn K (.ref cAddress) "__setattr__" = some (some (.builtin "object.__setattr__")))
    (mkAddress : PySem.W.makesIn K cAddress = true)
    (kcAddress : PySem.W.keepIn K (.ref cAddress) = true)
    (nAddress_nots : PySem.W.findIn K (.ref cAddress) "nots" = some none)
    (nAddress_what : PySem.W.findIn K (.ref cAddress) "what" = some none)
    (nAddress_low : PySem.W.findIn K (.ref cAddress) "low" = some none)
    (nAddress_high : PySem.W.findIn K (.ref cAddress) "high" = some none)
    (nAddress_word : PySem.W.findIn K (.ref cAddress) "word" = some none)
    (aDeed : PySem.W.nsIn K mainGlobals "Deed" = some (some (.ref cDeed)))
    (pgDeed : PySem.W.plainGet K cDeed Str.empty = true)
    (hdDeed : PySem.W.hasDictIn K cDeed = true)
    (poDeed : PySem.W.plainOver K cDeed = true)
    (saDeed : PySem.W.findIn K (.ref cDeed) "__setattr__" = some (some (.builtin "object.__setattr__")))
    (mkDeed : PySem.W.makesIn K cDeed = true)
    (kcDeed : PySem.W.keepIn K (.ref cDeed) = true)
    (nDeed_what : PySem.W.findIn K (.ref cDeed) "what" = some none)
    (nDeed_word : PySem.W.findIn K (.ref cDeed) "word" = some none)
    (nDeed_many : PySem.W.findIn K (.ref cDeed) "many" = some none)
    (aReader : PySem.W.nsIn K mainGlobals "Reader" = some (some (.ref cReader)))
    (pgReader : PySem.W.plainGet K cReader Str.empty = true)
    (hdReader : PySem.W.hasDictIn K cReader = true)
    (poReader : PySem.W.plainOver K cReader = true)
    (saReader : PySem.W.findIn K (.ref cReader) "__setattr__" = some (some (.builtin "object.__setattr__")))
    (mkReader : PySem.W.makesIn K cReader = true)
    (kcReader : PySem.W.keepIn K (.ref cReader) = true)
    (nReader_tokens : PySem.W.findIn K (.ref cReader) "tokens" = some none)
    (nReader_read : PySem.W.findIn K (.ref cReader) "read" = some none)
    (aRunner : PySem.W.nsIn K mainGlobals "Runner" = some (some (.ref cRunner)))
    (pgRunner : PySem.W.plainGet K cRunner Str.empty = true)
    (hdRunner : PySem.W.hasDictIn K cRunner = true)
    (poRunner : PySem.W.plainOver K cRunner = true)
    (saRunner : PySem.W.findIn K (.ref cRunner) "__setattr__" = some (some (.builtin "object.__setattr__")))
    (mkRunner : PySem.W.makesIn K cRunner = true)
    (kcRunner : PySem.W.keepIn K (.ref cRunner) = true)
    (nRunner_commands : PySem.W.findIn K (.ref cRunner) "commands" = some none)
    (nRunner_known : PySem.W.findIn K (.ref cRunner) "known" = some none)
    (aDesk : PySem.W.nsIn K mainGlobals "Desk" = some (some (.ref cDesk)))
    (pgDesk : PySem.W.plainGet K cDesk Str.empty = true)
    (hdDesk : PySem.W.hasDictIn K cDesk = true)
    (poDesk : PySem.W.plainOver K cDesk = true)
    (saDesk : PySem.W.findIn K (.ref cDesk) "__setattr__" = some (some (.builtin "object.__setattr__")))
    (mkDesk : PySem.W.makesIn K cDesk = true)
    (kcDesk : PySem.W.keepIn K (.ref cDesk) = true)
    (nDesk_held : PySem.W.findIn K (.ref cDesk) "held" = some none)
    (nDesk_first : PySem.W.findIn K (.ref cDesk) "first" = some none)
    (nDesk_second : PySem.W.findIn K (.ref cDesk) "second" = some none)
    (a0 : PySem.W.nsIn K mainGlobals "spells" = some (some (.ref f0)))
    (l0 : K.lookup f0 = some ⟨oc0, od0, .func (PySem.W.fnOf "spells" "spells" (defArgs s_spells) (defBody s_spells) (defScope s_spells) .none kV0 dc0 pm0 an0 cd0 ct0), sl0⟩)
    (c0 : PySem.W.codeIn K cd0 "spells" = true)
    (k0 : PySem.W.keepIn K (.ref f0) = true)
    (a1 : PySem.W.nsIn K mainGlobals "sort_of_word" = some (some (.ref f1)))
    (l1 : K.lookup f1 = some ⟨oc1, od1, .func (PySem.W.fnOf "sort_of_word" "sort_of_word" (defArgs s_sort_of_word) (defBody s_sort_of_word) (defScope s_sort_of_word) .none kV1 dc1 pm1 an1 cd1 ct1), sl1⟩)
    (c1 : PySem.W.codeIn K cd1 "sort_of_word" = true)
    (k1 : PySem.W.keepIn K (.ref f1) = true)
    (a2 : PySem.W.findIn K (.ref cFault) "__init__" = some (some (.ref f2)))
    (i2 : PySem.W.typeIn K (.ref f2) = some (.type "function"))
    (l2 : K.lookup f2 = some ⟨oc2, od2, .func (PySem.W.fnOf "__init__" "Fault.__init__" (defArgs s_Fault_init) (defBody s_Fault_init) (defScope s_Fault_init) .none kV2 dc2 pm2 an2 cd2 ct2), sl2⟩)
    (c2 : PySem.W.codeIn K cd2 "Fault.__init__" = true)
    (k2 : PySem.W.keepIn K (.ref f2) = true)
    (a3 : PySem.W.findIn K (.ref cToken) "__init__" = some (some (.ref f3)))
    (i3 : PySem.W.isFn K (.ref f3) = true)
    (l3 : K.lookup f3 = some ⟨oc3, od3, .func (PySem.W.fnOf "__init__" "Token.__init__" (defArgs s_Token_init) (defBody s_Token_init) (defScope s_Token_init) .none kV3 dc3 pm3 an3 cd3 ct3), sl3⟩)
    (c3 : PySem.W.codeIn K cd3 "Token.__init__" = true)
    (k3 : PySem.W.keepIn K (.ref f3) = true)
    (a4 : PySem.W.nsIn K mainGlobals "is_blank" = some (some (.ref f4)))
    (l4 : K.lookup f4 = some ⟨oc4, od4, .func (PySem.W.fnOf "is_blank" "is_blank" (defArgs s_is_blank) (defBody s_is_blank) (defScope s_is_blank) .none kV4 dc4 pm4 an4 cd4 ct4), sl4⟩)
    (c4 : PySem.W.codeIn K cd4 "is_blank" = true)
    (k4 : PySem.W.keepIn K (.ref f4) = true)
    (a5 : PySem.W.nsIn K mainGlobals "is_letter" = some (some (.ref f5)))
    (l5 : K.lookup f5 = some ⟨oc5, od5, .func (PySem.W.fnOf "is_letter" "is_letter" (defArgs s_is_letter) (defBody s_is_letter) (defScope s_is_letter) .none kV5 dc5 pm5 an5 cd5 ct5), sl5⟩)
    (c5 : PySem.W.codeIn K cd5 "is_letter" = true)
    (k5 : PySem.W.keepIn K (.ref f5) = true)
    (a6 : PySem.W.nsIn K mainGlobals "is_digit" = some (some (.ref f6)))
    (l6 : K.lookup f6 = some ⟨oc6, od6, .func (PySem.W.fnOf "is_digit" "is_digit" (defArgs s_is_digit) (defBody s_is_digit) (defScope s_is_digit) .none kV6 dc6 pm6 an6 cd6 ct6), sl6⟩)
    (c6 : PySem.W.codeIn K cd6 "is_digit" = true)
    (k6 : PySem.W.keepIn K (.ref f6) = true)
    (a7 : PySem.W.nsIn K mainGlobals "remark_end" = some (some (.ref f7)))
    (l7 : K.lookup f7 = some ⟨oc7, od7, .func (PySem.W.fnOf "remark_end" "remark_end" (defArgs s_remark_end) (defBody s_remark_end) (defScope s_remark_end) .none kV7 dc7 pm7 an7 cd7 ct7), sl7⟩)
    (c7 : PySem.W.codeIn K cd7 "remark_end" = true)
    (k7 : PySem.W.keepIn K (.ref f7) = true)
    (a8 : PySem.W.nsIn K mainGlobals "past_blanks" = some (some (.ref f8)))
    (l8 : K.lookup f8 = some ⟨oc8, od8, .func (PySem.W.fnOf "past_blanks" "past_blanks" (defArgs s_past_blanks) (defBody s_past_blanks) (defScope s_past_blanks) .none kV8 dc8 pm8 an8 cd8 ct8), sl8⟩)
    (c8 : PySem.W.codeIn K cd8 "past_blanks" = true)
    (k8 : PySem.W.keepIn K (.ref f8) = true)
    (a9 : PySem.W.nsIn K mainGlobals "run_end" = some (some (.ref f9)))
    (l9 : K.lookup f9 = some ⟨oc9, od9, .func (PySem.W.fnOf "run_end" "run_end" (defArgs s_run_end) (defBody s_run_end) (defScope s_run_end) .none kV9 dc9 pm9 an9 cd9 ct9), sl9⟩)
    (c9 : PySem.W.codeIn K cd9 "run_end" = true)
    (k9 : PySem.W.keepIn K (.ref f9) = true)
    (a10 : PySem.W.nsIn K mainGlobals "number_of" = some (some (.ref f10)))
    (l10 : K.lookup f10 = some ⟨oc10, od10, .func (PySem.W.fnOf "number_of" "number_of" (defArgs s_number_of) (defBody s_number_of) (defScope s_number_of) .none kV10 dc10 pm10 an10 cd10 ct10), sl10⟩)
    (c10 : PySem.W.codeIn K cd10 "number_of" = true)
    (k10 : PySem.W.keepIn K (.ref f10) = true)
    (a11 : PySem.W.nsIn K mainGlobals "word_token" = some (some (.ref f11)))
    (l11 : K.lookup f11 = some ⟨oc11, od11, .func (PySem.W.fnOf "word_token" "word_token" (defArgs s_word_token) (defBody s_word_token) (defScope s_word_token) .none kV11 dc11 pm11 an11 cd11 ct11), sl11⟩)
    (c11 : PySem.W.codeIn K cd11 "word_token" = true)
    (k11 : PySem.W.keepIn K (.ref f11) = true)
    (a12 : PySem.W.nsIn K mainGlobals "number_token" = some (some (.ref f12)))
    (l12 : K.lookup f12 = some ⟨oc12, od12, .func (PySem.W.fnOf "number_token" "number_token" (defArgs s_number_token) (defBody s_number_token) (defScope s_number_token) .none kV12 dc12 pm12 an12 cd12 ct12), sl12⟩)
    (c12 : PySem.W.codeIn K cd12 "number_token" = true)
    (k12 : PySem.W.keepIn K (.ref f12) = true)
    (a13 : PySem.W.nsIn K mainGlobals "token_at" = some (some (.ref f13)))
    (l13 : K.lookup f13 = some ⟨oc13, od13, .func (PySem.W.fnOf "token_at" "token_at" (defArgs s_token_at) (defBody s_token_at) (defScope s_token_at) .none kV13 dc13 pm13 an13 cd13 ct13), sl13⟩)
    (c13 : PySem.W.codeIn K cd13 "token_at" = true)
    (k13 : PySem.W.keepIn K (.ref f13) = true)
    (a14 : PySem.W.nsIn K mainGlobals "read_tokens" = some (some (.ref f14)))
    (l14 : K.lookup f14 = some ⟨oc14, od14, .func (PySem.W.fnOf "read_tokens" "read_tokens" (defArgs s_read_tokens) (defBody s_read_tokens) (defScope s_read_tokens) .none kV14 dc14 pm14 an14 cd14 ct14), sl14⟩)
    (c14 : PySem.W.codeIn K cd14 "read_tokens" = true)
    (k14 : PySem.W.keepIn K (.ref f14) = true)
    (a15 : PySem.W.findIn K (.ref cAddress) "__init__" = some (some (.ref f15)))
    (i15 : PySem.W.isFn K (.ref f15) = true)
    (l15 : K.lookup f15 = some ⟨oc15, od15, .func (PySem.W.fnOf "__init__" "Address.__init__" (defArgs s_Address_init) (defBody s_Address_init) (defScope s_Address_init) .none kV15 dc15 pm15 an15 cd15 ct15), sl15⟩)
    (c15 : PySem.W.codeIn K cd15 "Address.__init__" = true)
    (k15 : PySem.W.keepIn K (.ref f15) = true)
    (a16 : PySem.W.findIn K (.ref cDeed) "__init__" = some (some (.ref f16)))
    (i16 : PySem.W.isFn K (.ref f16) = true)
    (l16 : K.lookup f16 = some ⟨oc16, od16, .func (PySem.W.fnOf "__init__" "Deed.__init__" (defArgs s_Deed_init) (defBody s_Deed_init) (defScope s_Deed_init) .none kV16 dc16 pm16 an16 cd16 ct16), sl16⟩)
    (c16 : PySem.W.codeIn K cd16 "Deed.__init__" = true)
    (k16 : PySem.W.keepIn K (.ref f16) = true)
    (a17 : PySem.W.findIn K (.ref cReader) "__init__" = some (some (.ref f17)))
    (i17 : PySem.W.isFn K (.ref f17) = true)
    (l17 : K.lookup f17 = some ⟨oc17, od17, .func (PySem.W.fnOf "__init__" "Reader.__init__" (defArgs s_Reader_init) (defBody s_Reader_init) (defScope s_Reader_init) .none kV17 dc17 pm17 an17 cd17 ct17), sl17⟩)
    (c17 : PySem.W.codeIn K cd17 "Reader.__init__" = true)
    (k17 : PySem.W.keepIn K (.ref f17) = true)
    (a18 : PySem.W.findIn K (.ref cReader) "now" = some (some (.ref f18)))
    (i18 : PySem.W.isFn K (.ref f18) = true)
    (l18 : K.lookup f18 = some ⟨oc18, od18, .func (PySem.W.fnOf "now" "Reader.now" (defArgs s_Reader_now) (defBody s_Reader_now) (defScope s_Reader_now) .none kV18 dc18 pm18 an18 cd18 ct18), sl18⟩)
    (c18 : PySem.W.codeIn K cd18 "Reader.now" = true)
    (k18 : PySem.W.keepIn K (.ref f18) = true)
    (a19 : PySem.W.findIn K (.ref cReader) "take" = some (some (.ref f19)))
    (i19 : PySem.W.isFn K (.ref f19) = true)
    (l19 : K.lookup f19 = some ⟨oc19, od19, .func (PySem.W.fnOf "take" "Reader.take" (defArgs s_Reader_take) (defBody s_Reader_take) (defScope s_Reader_take) .none kV19 dc19 pm19 an19 cd19 ct19), sl19⟩)
    (c19 : PySem.W.codeIn K cd19 "Reader.take" = true)
    (k19 : PySem.W.keepIn K (.ref f19) = true)
    (a20 : PySem.W.nsIn K mainGlobals "take_sort" = some (some (.ref f20)))
    (l20 : K.lookup f20 = some ⟨oc20, od20, .func (PySem.W.fnOf "take_sort" "take_sort" (defArgs s_take_sort) (defBody s_take_sort) (defScope s_take_sort) .none kV20 dc20 pm20 an20 cd20 ct20), sl20⟩)
    (c20 : PySem.W.codeIn K cd20 "take_sort" = true)
    (k20 : PySem.W.keepIn K (.ref f20) = true)
    (a21 : PySem.W.nsIn K mainGlobals "take_letters" = some (some (.ref f21)))
    (l21 : K.lookup f21 = some ⟨oc21, od21, .func (PySem.W.fnOf "take_letters" "take_letters" (defArgs s_take_letters) (defBody s_take_letters) (defScope s_take_letters) .none kV21 dc21 pm21 an21 cd21 ct21), sl21⟩)
    (c21 : PySem.W.codeIn K cd21 "take_letters" = true)
    (k21 : PySem.W.keepIn K (.ref f21) = true)
    (a22 : PySem.W.nsIn K mainGlobals "take_letters_or_none" = some (some (.ref f22)))
    (l22 : K.lookup f22 = some ⟨oc22, od22, .func (PySem.W.fnOf "take_letters_or_none" "take_letters_or_none" (defArgs s_take_letters_or_none) (defBody s_take_letters_or_none) (defScope s_take_letters_or_none) .none kV22 dc22 pm22 an22 cd22 ct22), sl22⟩)
    (c22 : PySem.W.codeIn K cd22 "take_letters_or_none" = true)
    (k22 : PySem.W.keepIn K (.ref f22) = true)
    (a23 : PySem.W.nsIn K mainGlobals "take_number" = some (some (.ref f23)))
    (l23 : K.lookup f23 = some ⟨oc23, od23, .func (PySem.W.fnOf "take_number" "take_number" (defArgs s_take_number) (defBody s_take_number) (defScope s_take_number) .none kV23 dc23 pm23 an23 cd23 ct23), sl23⟩)
    (c23 : PySem.W.codeIn K cd23 "take_number" = true)
    (k23 : PySem.W.keepIn K (.ref f23) = true)
    (a24 : PySem.W.nsIn K mainGlobals "read_nots" = some (some (.ref f24)))
    (l24 : K.lookup f24 = some ⟨oc24, od24, .func (PySem.W.fnOf "read_nots" "read_nots" (defArgs s_read_nots) (defBody s_read_nots) (defScope s_read_nots) .none kV24 dc24 pm24 an24 cd24 ct24), sl24⟩)
    (c24 : PySem.W.codeIn K cd24 "read_nots" = true)
    (k24 : PySem.W.keepIn K (.ref f24) = true)
    (a25 : PySem.W.nsIn K mainGlobals "read_address" = some (some (.ref f25)))
    (l25 : K.lookup f25 = some ⟨oc25, od25, .func (PySem.W.fnOf "read_address" "read_address" (defArgs s_read_address) (defBody s_read_address) (defScope s_read_address) .none kV25 dc25 pm25 an25 cd25 ct25), sl25⟩)
    (c25 : PySem.W.codeIn K cd25 "read_address" = true)
    (k25 : PySem.W.keepIn K (.ref f25) = true)
    (a26 : PySem.W.nsIn K mainGlobals "read_deed" = some (some (.ref f26)))
    (l26 : K.lookup f26 = some ⟨oc26, od26, .func (PySem.W.fnOf "read_deed" "read_deed" (defArgs s_read_deed) (defBody s_read_deed) (defScope s_read_deed) .none kV26 dc26 pm26 an26 cd26 ct26), sl26⟩)
    (c26 : PySem.W.codeIn K cd26 "read_deed" = true)
    (k26 : PySem.W.keepIn K (.ref f26) = true)
    (a27 : PySem.W.nsIn K mainGlobals "read_command" = some (some (.ref f27)))
    (l27 : K.lookup f27 = some ⟨oc27, od27, .func (PySem.W.fnOf "read_command" "read_command" (defArgs s_read_command) (defBody s_read_command) (defScope s_read_command) .none kV27 dc27 pm27 an27 cd27 ct27), sl27⟩)
    (c27 : PySem.W.codeIn K cd27 "read_command" = true)
    (k27 : PySem.W.keepIn K (.ref f27) = true)
    (a28 : PySem.W.nsIn K mainGlobals "read_script" = some (some (.ref f28)))
    (l28 : K.lookup f28 = some ⟨oc28, od28, .func (PySem.W.fnOf "read_script" "read_script" (defArgs s_read_script) (defBody s_read_script) (defScope s_read_script) .none kV28 dc28 pm28 an28 cd28 ct28), sl28⟩)
    (c28 : PySem.W.codeIn K cd28 "read_script" = true)
    (k28 : PySem.W.keepIn K (.ref f28) = true)
    (a29 : PySem.W.nsIn K mainGlobals "looked_for" = some (some (.ref f29)))
    (l29 : K.lookup f29 = some ⟨oc29, od29, .func (PySem.W.fnOf "looked_for" "looked_for" (defArgs s_looked_for) (defBody s_looked_for) (defScope s_looked_for) .none kV29 dc29 pm29 an29 cd29 ct29), sl29⟩)
    (c29 : PySem.W.codeIn K cd29 "looked_for" = true)
    (k29 : PySem.W.keepIn K (.ref f29) = true)
    (a30 : PySem.W.nsIn K mainGlobals "own_words" = some (some (.ref f30)))
    (l30 : K.lookup f30 = some ⟨oc30, od30, .func (PySem.W.fnOf "own_words" "own_words" (defArgs s_own_words) (defBody s_own_words) (defScope s_own_words) .none kV30 dc30 pm30 an30 cd30 ct30), sl30⟩)
    (c30 : PySem.W.codeIn K cd30 "own_words" = true)
    (k30 : PySem.W.keepIn K (.ref f30) = true)
    (a31 : PySem.W.nsIn K mainGlobals "letters_together" = some (some (.ref f31)))
    (l31 : K.lookup f31 = some ⟨oc31, od31, .func (PySem.W.fnOf "letters_together" "letters_together" (defArgs s_letters_together) (defBody s_letters_together) (defScope s_letters_together) .none kV31 dc31 pm31 an31 cd31 ct31), sl31⟩)
    (c31 : PySem.W.codeIn K cd31 "letters_together" = true)
    (k31 : PySem.W.keepIn K (.ref f31) = true)
    (a32 : PySem.W.nsIn K mainGlobals "is_plain" = some (some (.ref f32)))
    (l32 : K.lookup f32 = some ⟨oc32, od32, .func (PySem.W.fnOf "is_plain" "is_plain" (defArgs s_is_plain) (defBody s_is_plain) (defScope s_is_plain) .none kV32 dc32 pm32 an32 cd32 ct32), sl32⟩)
    (c32 : PySem.W.codeIn K cd32 "is_plain" = true)
    (k32 : PySem.W.keepIn K (.ref f32) = true)
    (a33 : PySem.W.nsIn K mainGlobals "stands" = some (some (.ref f33)))
    (l33 : K.lookup f33 = some ⟨oc33, od33, .func (PySem.W.fnOf "stands" "stands" (defArgs s_stands) (defBody s_stands) (defScope s_stands) .none kV33 dc33 pm33 an33 cd33 ct33), sl33⟩)
    (c33 : PySem.W.codeIn K cd33 "stands" = true)
    (k33 : PySem.W.keepIn K (.ref f33) = true)
    (a34 : PySem.W.nsIn K mainGlobals "holds_bare" = some (some (.ref f34)))
    (l34 : K.lookup f34 = some ⟨oc34, od34, .func (PySem.W.fnOf "holds_bare" "holds_bare" (defArgs s_holds_bare) (defBody s_holds_bare) (defScope s_holds_bare) .none kV34 dc34 pm34 an34 cd34 ct34), sl34⟩)
    (c34 : PySem.W.codeIn K cd34 "holds_bare" = true)
    (k34 : PySem.W.keepIn K (.ref f34) = true)
    (a35 : PySem.W.nsIn K mainGlobals "holds" = some (some (.ref f35)))
    (l35 : K.lookup f35 = some ⟨oc35, od35, .func (PySem.W.fnOf "holds" "holds" (defArgs s_holds) (defBody s_holds) (defScope s_holds) .none kV35 dc35 pm35 an35 cd35 ct35), sl35⟩)
    (c35 : PySem.W.codeIn K cd35 "holds" = true)
    (k35 : PySem.W.keepIn K (.ref f35) = true)
    (a36 : PySem.W.nsIn K mainGlobals "come_of" = some (some (.ref f36)))
    (l36 : K.lookup f36 = some ⟨oc36, od36, .func (PySem.W.fnOf "come_of" "come_of" (defArgs s_come_of) (defBody s_come_of) (defScope s_come_of) .none kV36 dc36 pm36 an36 cd36 ct36), sl36⟩)
    (c36 : PySem.W.codeIn K cd36 "come_of" = true)
    (k36 : PySem.W.keepIn K (.ref f36) = true)
    (a37 : PySem.W.findIn K (.ref cRunner) "__init__" = some (some (.ref f37)))
    (i37 : PySem.W.isFn K (.ref f37) = true)
    (l37 : K.lookup f37 = some ⟨oc37, od37, .func (PySem.W.fnOf "__init__" "Runner.__init__" (defArgs s_Runner_init) (defBody s_Runner_init) (defScope s_Runner_init) .none kV37 dc37 pm37 an37 cd37 ct37), sl37⟩)
    (c37 : PySem.W.codeIn K cd37 "Runner.__init__" = true)
    (k37 : PySem.W.keepIn K (.ref f37) = true)
    (a38 : PySem.W.findIn K (.ref cRunner) "come" = some (some (.ref f38)))
    (i38 : PySem.W.isFn K (.ref f38) = true)
    (l38 : K.lookup f38 = some ⟨oc38, od38, .func (PySem.W.fnOf "come" "Runner.come" (defArgs s_Runner_come) (defBody s_Runner_come) (defScope s_Runner_come) .none kV38 dc38 pm38 an38 cd38 ct38), sl38⟩)
    (c38 : PySem.W.codeIn K cd38 "Runner.come" = true)
    (k38 : PySem.W.keepIn K (.ref f38) = true)
    (a39 : PySem.W.nsIn K mainGlobals "run" = some (some (.ref f39)))
    (l39 : K.lookup f39 = some ⟨oc39, od39, .func (PySem.W.fnOf "run" "run" (defArgs s_run) (defBody s_run) (defScope s_run) .none kV39 dc39 pm39 an39 cd39 ct39), sl39⟩)
    (c39 : PySem.W.codeIn K cd39 "run" = true)
    (k39 : PySem.W.keepIn K (.ref f39) = true)
    (a40 : PySem.W.nsIn K mainGlobals "run_after" = some (some (.ref f40)))
    (l40 : K.lookup f40 = some ⟨oc40, od40, .func (PySem.W.fnOf "run_after" "run_after" (defArgs s_run_after) (defBody s_run_after) (defScope s_run_after) .none kV40 dc40 pm40 an40 cd40 ct40), sl40⟩)
    (c40 : PySem.W.codeIn K cd40 "run_after" = true)
    (k40 : PySem.W.keepIn K (.ref f40) = true)
    (a41 : PySem.W.nsIn K mainGlobals "is_used" = some (some (.ref f41)))
    (l41 : K.lookup f41 = some ⟨oc41, od41, .func (PySem.W.fnOf "is_used" "is_used" (defArgs s_is_used) (defBody s_is_used) (defScope s_is_used) .none kV41 dc41 pm41 an41 cd41 ct41), sl41⟩)
    (c41 : PySem.W.codeIn K cd41 "is_used" = true)
    (k41 : PySem.W.keepIn K (.ref f41) = true)
    (a42 : PySem.W.nsIn K mainGlobals "free_letter" = some (some (.ref f42)))
    (l42 : K.lookup f42 = some ⟨oc42, od42, .func (PySem.W.fnOf "free_letter" "free_letter" (defArgs s_free_letter) (defBody s_free_letter) (defScope s_free_letter) .none kV42 dc42 pm42 an42 cd42 ct42), sl42⟩)
    (c42 : PySem.W.codeIn K cd42 "free_letter" = true)
    (k42 : PySem.W.keepIn K (.ref f42) = true)
    (a43 : PySem.W.nsIn K mainGlobals "begins_one" = some (some (.ref f43)))
    (l43 : K.lookup f43 = some ⟨oc43, od43, .func (PySem.W.fnOf "begins_one" "begins_one" (defArgs s_begins_one) (defBody s_begins_one) (defScope s_begins_one) .none kV43 dc43 pm43 an43 cd43 ct43), sl43⟩)
    (c43 : PySem.W.codeIn K cd43 "begins_one" = true)
    (k43 : PySem.W.keepIn K (.ref f43) = true)
    (a44 : PySem.W.nsIn K mainGlobals "longest_end" = some (some (.ref f44)))
    (l44 : K.lookup f44 = some ⟨oc44, od44, .func (PySem.W.fnOf "longest_end" "longest_end" (defArgs s_longest_end) (defBody s_longest_end) (defScope s_longest_end) .none kV44 dc44 pm44 an44 cd44 ct44), sl44⟩)
    (c44 : PySem.W.codeIn K cd44 "longest_end" = true)
    (k44 : PySem.W.keepIn K (.ref f44) = true)
    (a45 : PySem.W.nsIn K mainGlobals "words_had" = some (some (.ref f45)))
    (l45 : K.lookup f45 = some ⟨oc45, od45, .func (PySem.W.fnOf "words_had" "words_had" (defArgs s_words_had) (defBody s_words_had) (defScope s_words_had) .none kV45 dc45 pm45 an45 cd45 ct45), sl45⟩)
    (c45 : PySem.W.codeIn K cd45 "words_had" = true)
    (k45 : PySem.W.keepIn K (.ref f45) = true)
    (a46 : PySem.W.nsIn K mainGlobals "state_of" = some (some (.ref f46)))
    (l46 : K.lookup f46 = some ⟨oc46, od46, .func (PySem.W.fnOf "state_of" "state_of" (defArgs s_state_of) (defBody s_state_of) (defScope s_state_of) .none kV46 dc46 pm46 an46 cd46 ct46), sl46⟩)
    (c46 : PySem.W.codeIn K cd46 "state_of" = true)
    (k46 : PySem.W.keepIn K (.ref f46) = true)
    (a47 : PySem.W.nsIn K mainGlobals "longer_lines" = some (some (.ref f47)))
    (l47 : K.lookup f47 = some ⟨oc47, od47, .func (PySem.W.fnOf "longer_lines" "longer_lines" (defArgs s_longer_lines) (defBody s_longer_lines) (defScope s_longer_lines) .none kV47 dc47 pm47 an47 cd47 ct47), sl47⟩)
    (c47 : PySem.W.codeIn K cd47 "longer_lines" = true)
    (k47 : PySem.W.keepIn K (.ref f47) = true)
    (a48 : PySem.W.nsIn K mainGlobals "first_of_states" = some (some (.ref f48)))
    (l48 : K.lookup f48 = some ⟨oc48, od48, .func (PySem.W.fnOf "first_of_states" "first_of_states" (defArgs s_first_of_states) (defBody s_first_of_states) (defScope s_first_of_states) .none kV48 dc48 pm48 an48 cd48 ct48), sl48⟩)
    (c48 : PySem.W.codeIn K cd48 "first_of_states" = true)
    (k48 : PySem.W.keepIn K (.ref f48) = true)
    (a49 : PySem.W.nsIn K mainGlobals "first_lines" = some (some (.ref f49)))
    (l49 : K.lookup f49 = some ⟨oc49, od49, .func (PySem.W.fnOf "first_lines" "first_lines" (defArgs s_first_lines) (defBody s_first_lines) (defScope s_first_lines) .none kV49 dc49 pm49 an49 cd49 ct49), sl49⟩)
    (c49 : PySem.W.codeIn K cd49 "first_lines" = true)
    (k49 : PySem.W.keepIn K (.ref f49) = true)
    (a50 : PySem.W.nsIn K mainGlobals "padded" = some (some (.ref f50)))
    (l50 : K.lookup f50 = some ⟨oc50, od50, .func (PySem.W.fnOf "padded" "padded" (defArgs s_padded) (defBody s_padded) (defScope s_padded) .none kV50 dc50 pm50 an50 cd50 ct50), sl50⟩)
    (c50 : PySem.W.codeIn K cd50 "padded" = true)
    (k50 : PySem.W.keepIn K (.ref f50) = true)
    (a51 : PySem.W.nsIn K mainGlobals "kinds_of" = some (some (.ref f51)))
    (l51 : K.lookup f51 = some ⟨oc51, od51, .func (PySem.W.fnOf "kinds_of" "kinds_of" (defArgs s_kinds_of) (defBody s_kinds_of) (defScope s_kinds_of) .none kV51 dc51 pm51 an51 cd51 ct51), sl51⟩)
    (c51 : PySem.W.codeIn K cd51 "kinds_of" = true)
    (k51 : PySem.W.keepIn K (.ref f51) = true)
    (a52 : PySem.W.nsIn K mainGlobals "variant_of" = some (some (.ref f52)))
    (l52 : K.lookup f52 = some ⟨oc52, od52, .func (PySem.W.fnOf "variant_of" "variant_of" (defArgs s_variant_of) (defBody s_variant_of) (defScope s_variant_of) .none kV52 dc52 pm52 an52 cd52 ct52), sl52⟩)
    (c52 : PySem.W.codeIn K cd52 "variant_of" = true)
    (k52 : PySem.W.keepIn K (.ref f52) = true)
    (a53 : PySem.W.nsIn K mainGlobals "variants_of" = some (some (.ref f53)))
    (l53 : K.lookup f53 = some ⟨oc53, od53, .func (PySem.W.fnOf "variants_of" "variants_of" (defArgs s_variants_of) (defBody s_variants_of) (defScope s_variants_of) .none kV53 dc53 pm53 an53 cd53 ct53), sl53⟩)
    (c53 : PySem.W.codeIn K cd53 "variants_of" = true)
    (k53 : PySem.W.keepIn K (.ref f53) = true)
    (a54 : PySem.W.nsIn K mainGlobals "looked_at" = some (some (.ref f54)))
    (l54 : K.lookup f54 = some ⟨oc54, od54, .func (PySem.W.fnOf "looked_at" "looked_at" (defArgs s_looked_at) (defBody s_looked_at) (defScope s_looked_at) .none kV54 dc54 pm54 an54 cd54 ct54), sl54⟩)
    (c54 : PySem.W.codeIn K cd54 "looked_at" = true)
    (k54 : PySem.W.keepIn K (.ref f54) = true)
    (a55 : PySem.W.nsIn K mainGlobals "line_numbers" = some (some (.ref f55)))
    (l55 : K.lookup f55 = some ⟨oc55, od55, .func (PySem.W.fnOf "line_numbers" "line_numbers" (defArgs s_line_numbers) (defBody s_line_numbers) (defScope s_line_numbers) .none kV55 dc55 pm55 an55 cd55 ct55), sl55⟩)
    (c55 : PySem.W.codeIn K cd55 "line_numbers" = true)
    (k55 : PySem.W.keepIn K (.ref f55) = true)
    (a56 : PySem.W.nsIn K mainGlobals "text_numbers" = some (some (.ref f56)))
    (l56 : K.lookup f56 = some ⟨oc56, od56, .func (PySem.W.fnOf "text_numbers" "text_numbers" (defArgs s_text_numbers) (defBody s_text_numbers) (defScope s_text_numbers) .none kV56 dc56 pm56 an56 cd56 ct56), sl56⟩)
    (c56 : PySem.W.codeIn K cd56 "text_numbers" = true)
    (k56 : PySem.W.keepIn K (.ref f56) = true)
    (a57 : PySem.W.nsIn K mainGlobals "places" = some (some (.ref f57)))
    (l57 : K.lookup f57 = some ⟨oc57, od57, .func (PySem.W.fnOf "places" "places" (defArgs s_places) (defBody s_places) (defScope s_places) .none kV57 dc57 pm57 an57 cd57 ct57), sl57⟩)
    (c57 : PySem.W.codeIn K cd57 "places" = true)
    (k57 : PySem.W.keepIn K (.ref f57) = true)
    (a58 : PySem.W.nsIn K mainGlobals "first_unlike" = some (some (.ref f58)))
    (l58 : K.lookup f58 = some ⟨oc58, od58, .func (PySem.W.fnOf "first_unlike" "first_unlike" (defArgs s_first_unlike) (defBody s_first_unlike) (defScope s_first_unlike) .none kV58 dc58 pm58 an58 cd58 ct58), sl58⟩)
    (c58 : PySem.W.codeIn K cd58 "first_unlike" = true)
    (k58 : PySem.W.keepIn K (.ref f58) = true)
    (a59 : PySem.W.nsIn K mainGlobals "alike" = some (some (.ref f59)))
    (l59 : K.lookup f59 = some ⟨oc59, od59, .func (PySem.W.fnOf "alike" "alike" (defArgs s_alike) (defBody s_alike) (defScope s_alike) .none kV59 dc59 pm59 an59 cd59 ct59), sl59⟩)
    (c59 : PySem.W.codeIn K cd59 "alike" = true)
    (k59 : PySem.W.keepIn K (.ref f59) = true)
    (a60 : PySem.W.nsIn K mainGlobals "apart_for" = some (some (.ref f60)))
    (l60 : K.lookup f60 = some ⟨oc60, od60, .func (PySem.W.fnOf "apart_for" "apart_for" (defArgs s_apart_for) (defBody s_apart_for) (defScope s_apart_for) .none kV60 dc60 pm60 an60 cd60 ct60), sl60⟩)
    (c60 : PySem.W.codeIn K cd60 "apart_for" = true)
    (k60 : PySem.W.keepIn K (.ref f60) = true)
    (a61 : PySem.W.nsIn K mainGlobals "undone_fails" = some (some (.ref f61)))
    (l61 : K.lookup f61 = some ⟨oc61, od61, .func (PySem.W.fnOf "undone_fails" "undone_fails" (defArgs s_undone_fails) (defBody s_undone_fails) (defScope s_undone_fails) .none kV61 dc61 pm61 an61 cd61 ct61), sl61⟩)
    (c61 : PySem.W.codeIn K cd61 "undone_fails" = true)
    (k61 : PySem.W.keepIn K (.ref f61) = true)
    (a62 : PySem.W.nsIn K mainGlobals "order_matters" = some (some (.ref f62)))
    (l62 : K.lookup f62 = some ⟨oc62, od62, .func (PySem.W.fnOf "order_matters" "order_matters" (defArgs s_order_matters) (defBody s_order_matters) (defScope s_order_matters) .none kV62 dc62 pm62 an62 cd62 ct62), sl62⟩)
    (c62 : PySem.W.codeIn K cd62 "order_matters" = true)
    (k62 : PySem.W.keepIn K (.ref f62) = true)
    (a63 : PySem.W.nsIn K mainGlobals "twice_differs" = some (some (.ref f63)))
    (l63 : K.lookup f63 = some ⟨oc63, od63, .func (PySem.W.fnOf "twice_differs" "twice_differs" (defArgs s_twice_differs) (defBody s_twice_differs) (defScope s_twice_differs) .none kV63 dc63 pm63 an63 cd63 ct63), sl63⟩)
    (c63 : PySem.W.codeIn K cd63 "twice_differs" = true)
    (k63 : PySem.W.keepIn K (.ref f63) = true)
    (a64 : PySem.W.nsIn K mainGlobals "stands_against" = some (some (.ref f64)))
    (l64 : K.lookup f64 = some ⟨oc64, od64, .func (PySem.W.fnOf "stands_against" "stands_against" (defArgs s_stands_against) (defBody s_stands_against) (defScope s_stands_against) .none kV64 dc64 pm64 an64 cd64 ct64), sl64⟩)
    (c64 : PySem.W.codeIn K cd64 "stands_against" = true)
    (k64 : PySem.W.keepIn K (.ref f64) = true)
    (a65 : PySem.W.nsIn K mainGlobals "look_through" = some (some (.ref f65)))
    (l65 : K.lookup f65 = some ⟨oc65, od65, .func (PySem.W.fnOf "look_through" "look_through" (defArgs s_look_through) (defBody s_look_through) (defScope s_look_through) .none kV65 dc65 pm65 an65 cd65 ct65), sl65⟩)
    (c65 : PySem.W.codeIn K cd65 "look_through" = true)
    (k65 : PySem.W.keepIn K (.ref f65) = true)
    (a66 : PySem.W.nsIn K mainGlobals "lines_for_same" = some (some (.ref f66)))
    (l66 : K.lookup f66 = some ⟨oc66, od66, .func (PySem.W.fnOf "lines_for_same" "lines_for_same" (defArgs s_lines_for_same) (defBody s_lines_for_same) (defScope s_lines_for_same) .none kV66 dc66 pm66 an66 cd66 ct66), sl66⟩)
    (c66 : PySem.W.codeIn K cd66 "lines_for_same" = true)
    (k66 : PySem.W.keepIn K (.ref f66) = true)
    (a67 : PySem.W.nsIn K mainGlobals "later_like" = some (some (.ref f67)))
    (l67 : K.lookup f67 = some ⟨oc67, od67, .func (PySem.W.fnOf "later_like" "later_like" (defArgs s_later_like) (defBody s_later_like) (defScope s_later_like) .none kV67 dc67 pm67 an67 cd67 ct67), sl67⟩)
    (c67 : PySem.W.codeIn K cd67 "later_like" = true)
    (k67 : PySem.W.keepIn K (.ref f67) = true)
    (a68 : PySem.W.nsIn K mainGlobals "same" = some (some (.ref f68)))
    (l68 : K.lookup f68 = some ⟨oc68, od68, .func (PySem.W.fnOf "same" "same" (defArgs s_same) (defBody s_same) (defScope s_same) .none kV68 dc68 pm68 an68 cd68 ct68), sl68⟩)
    (c68 : PySem.W.codeIn K cd68 "same" = true)
    (k68 : PySem.W.keepIn K (.ref f68) = true)
    (a69 : PySem.W.nsIn K mainGlobals "looks" = some (some (.ref f69)))
    (l69 : K.lookup f69 = some ⟨oc69, od69, .func (PySem.W.fnOf "looks" "looks" (defArgs s_looks) (defBody s_looks) (defScope s_looks) .none kV69 dc69 pm69 an69 cd69 ct69), sl69⟩)
    (c69 : PySem.W.codeIn K cd69 "looks" = true)
    (k69 : PySem.W.keepIn K (.ref f69) = true)
    (a70 : PySem.W.findIn K (.ref cDesk) "__init__" = some (some (.ref f70)))
    (i70 : PySem.W.isFn K (.ref f70) = true)
    (l70 : K.lookup f70 = some ⟨oc70, od70, .func (PySem.W.fnOf "__init__" "Desk.__init__" (defArgs s_Desk_init) (defBody s_Desk_init) (defScope s_Desk_init) .none kV70 dc70 pm70 an70 cd70 ct70), sl70⟩)
    (c70 : PySem.W.codeIn K cd70 "Desk.__init__" = true)
    (k70 : PySem.W.keepIn K (.ref f70) = true)
    (a71 : PySem.W.findIn K (.ref cDesk) "load" = some (some (.ref f71)))
    (i71 : PySem.W.isFn K (.ref f71) = true)
    (l71 : K.lookup f71 = some ⟨oc71, od71, .func (PySem.W.fnOf "load" "Desk.load" (defArgs s_Desk_load) (defBody s_Desk_load) (defScope s_Desk_load) .none kV71 dc71 pm71 an71 cd71 ct71), sl71⟩)
    (c71 : PySem.W.codeIn K cd71 "Desk.load" = true)
    (k71 : PySem.W.keepIn K (.ref f71) = true)
    (a72 : PySem.W.findIn K (.ref cDesk) "load_other" = some (some (.ref f72)))
    (i72 : PySem.W.isFn K (.ref f72) = true)
    (l72 : K.lookup f72 = some ⟨oc72, od72, .func (PySem.W.fnOf "load_other" "Desk.load_other" (defArgs s_Desk_load_other) (defBody s_Desk_load_other) (defScope s_Desk_load_other) .none kV72 dc72 pm72 an72 cd72 ct72), sl72⟩)
    (c72 : PySem.W.codeIn K cd72 "Desk.load_other" = true)
    (k72 : PySem.W.keepIn K (.ref f72) = true)
    (a73 : PySem.W.findIn K (.ref cDesk) "turn_round" = some (some (.ref f73)))
    (i73 : PySem.W.isFn K (.ref f73) = true)
    (l73 : K.lookup f73 = some ⟨oc73, od73, .func (PySem.W.fnOf "turn_round" "Desk.turn_round" (defArgs s_Desk_turn_round) (defBody s_Desk_turn_round) (defScope s_Desk_turn_round) .none kV73 dc73 pm73 an73 cd73 ct73), sl73⟩)
    (c73 : PySem.W.codeIn K cd73 "Desk.turn_round" = true)
    (k73 : PySem.W.keepIn K (.ref f73) = true)
    (a74 : PySem.W.findIn K (.ref cDesk) "look" = some (some (.ref f74)))
    (i74 : PySem.W.isFn K (.ref f74) = true)
    (l74 : K.lookup f74 = some ⟨oc74, od74, .func (PySem.W.fnOf "look" "Desk.look" (defArgs s_Desk_look) (defBody s_Desk_look) (defScope s_Desk_look) .none kV74 dc74 pm74 an74 cd74 ct74), sl74⟩)
    (c74 : PySem.W.codeIn K cd74 "Desk.look" = true)
    (k74 : PySem.W.keepIn K (.ref f74) = true)
    (a75 : PySem.W.findIn K (.ref cDesk) "answer" = some (some (.ref f75)))
    (i75 : PySem.W.isFn K (.ref f75) = true)
    (l75 : K.lookup f75 = some ⟨oc75, od75, .func (PySem.W.fnOf "answer" "Desk.answer" (defArgs s_Desk_answer) (defBody s_Desk_answer) (defScope s_Desk_answer) .none kV75 dc75 pm75 an75 cd75 ct75), sl75⟩)
    (c75 : PySem.W.codeIn K cd75 "Desk.answer" = true)
    (k75 : PySem.W.keepIn K (.ref f75) = true)
    (a76 : PySem.W.nsIn K mainGlobals "call_end" = some (some (.ref f76)))
    (l76 : K.lookup f76 = some ⟨oc76, od76, .func (PySem.W.fnOf "call_end" "call_end" (defArgs s_call_end) (defBody s_call_end) (defScope s_call_end) .none kV76 dc76 pm76 an76 cd76 ct76), sl76⟩)
    (c76 : PySem.W.codeIn K cd76 "call_end" = true)
    (k76 : PySem.W.keepIn K (.ref f76) = true)
    (a77 : PySem.W.nsIn K mainGlobals "answers" = some (some (.ref f77)))
    (l77 : K.lookup f77 = some ⟨oc77, od77, .func (PySem.W.fnOf "answers" "answers" (defArgs s_answers) (defBody s_answers) (defScope s_answers) .none kV77 dc77 pm77 an77 cd77 ct77), sl77⟩)
    (c77 : PySem.W.codeIn K cd77 "answers" = true)
    (k77 : PySem.W.keepIn K (.ref f77) = true) :
    ∃ fd : FuncData, (∀ (s : Shared) (us : List Value), us.length = P_answers.length → BindsTo s fd ⟨us, []⟩ (P_answers.zip us)) ∧ ∀ base : Heap, K.In base → base.Ns mainGlobals mg → FnOk P w K mg base CX0 13 fa fd P_answers (sp_answers K) := by
  have e := hfa.symm.trans (PySem.W.mg_of X G a77)
  cases e
  have F0 := fun_mk (st := s_spells) l0 c0 k0
  have b0 := F0.binds (ps := P_spells) fun _ _ _ _ _ _ us hl => match us, hl with | [_, _], _ => rfl
  have F1 := fun_mk (st := s_sort_of_word) l1 c1 k1
  have b1 := F1.binds (ps := P_sort_of_word) fun _ _ _ _ _ _ us hl => match us, hl with | [_], _ => rfl
  have F2 := fun_mk (st := s_Fault_init) l2 c2 k2
  have b2 := F2.binds (ps := P_Fault_init) fun _ _ _ _ _ _ us hl => match us, hl with | [_, _, _], _ => rfl
  have F3 := fun_mk (st := s_Token_init) l3 c3 k3
  have b3 := F3.binds (ps := P_Token_init) fun _ _ _ _ _ _ us hl => match us, hl with | [_, _, _, _, _], _ => rfl
  have F4 := fun_mk (st := s_is_blank) l4 c4 k4
  have b4 := F4.binds (ps := P_is_blank) fun _ _ _ _ _ _ us hl => match us, hl with | [_], _ => rfl
  have F5 := fun_mk (st := s_is_letter) l5 c5 k5
  have b5 := F5.binds (ps := P_is_letter) fun _ _ _ _ _ _ us hl => match us, hl with | [_], _ => rfl
  have F6 := fun_mk (st := s_is_digit) l6 c6 k6
  have b6 := F6.binds (ps := P_is_digit) fun _ _ _ _ _ _ us hl => match us, hl with | [_], _ => rfl
  have F7 := fun_mk (st := s_remark_end) l7 c7 k7
  have b7 := F7.binds (ps := P_remark_end) fun _ _ _ _ _ _ us hl => match us, hl with | [_, _], _ => rfl
  have F8 := fun_mk (st := s_past_blanks) l8 c8 k8
  have b8 := F8.binds (ps := P_past_blanks) fun _ _ _ _ _ _ us hl => match us, hl with | [_, _], _ => rfl
  have F9 := fun_mk (st := s_run_end) l9 c9 k9
  have b9 := F9.binds (ps := P_run_end) fun _ _ _ _ _ _ us hl => match us, hl with | [_, _, _, _], _ => rfl
  have F10 := fun_mk (st := s_number_of) l10 c10 k10
  have b10 := F10.binds (ps := P_number_of) fun _ _ _ _ _ _ us hl => match us, hl with | [_, _, _], _ => rfl
  have F11 := fun_mk (st := s_word_token) l11 c11 k11
  have b11 := F11.binds (ps := P_word_token) fun _ _ _ _ _ _ us hl => match us, hl with | [_, _], _ => rfl
  have F12 := fun_mk (st := s_number_token) l12 c12 k12
  have b12 := F12.binds (ps := P_number_token) fun _ _ _ _ _ _ us hl => match us, hl with | [_, _], _ => rfl
  have F13 := fun_mk (st := s_token_at) l13 c13 k13
  have b13 := F13.binds (ps := P_token_at) fun _ _ _ _ _ _ us hl => match us, hl with | [_, _], _ => rfl
  have F14 := fun_mk (st := s_read_tokens) l14 c14 k14
  have b14 := F14.binds (ps := P_read_tokens) fun _ _ _ _ _ _ us hl => match us, hl with | [_], _ => rfl
  have F15 := fun_mk (st := s_Address_init) l15 c15 k15
  have b15 := F15.binds (ps := P_Address_init) fun _ _ _ _ _ _ us hl => match us, hl with | [_, _, _, _, _, _], _ => rfl
  have F16 := fun_mk (st := s_Deed_init) l16 c16 k16
  have b16 := F16.binds (ps := P_Deed_init) fun _ _ _ _ _ _ us hl => match us, hl with | [_, _, _, _], _ => rfl
  have F17 := fun_mk (st := s_Reader_init) l17 c17 k17
  have b17 := F17.binds (ps := P_Reader_init) fun _ _ _ _ _ _ us hl => match us, hl with | [_, _], _ => rfl
  have F18 := fun_mk (st := s_Reader_now) l18 c18 k18
  have b18 := F18.binds (ps := P_Reader_now) fun _ _ _ _ _ _ us hl => match us, hl with | [_], _ => rfl
  have F19 := fun_mk (st := s_Reader_take) l19 c19 k19
  have b19 := F19.binds (ps := P_Reader_take) fun _ _ _ _ _ _ us hl => match us, hl with | [_], _ => rfl
  have F20 := fun_mk (st := s_take_sort) l20 c20 k20
  have b20 := F20.binds (ps := P_take_sort) fun _ _ _ _ _ _ us hl => match us, hl with | [_, _], _ => rfl
  have F21 := fun_mk (st := s_take_letters) l21 c21 k21
  have b21 := F21.binds (ps := P_take_letters) fun _ _ _ _ _ _ us hl => match us, hl with | [_], _ => rfl
  have F22 := fun_mk (st := s_take_letters_or_none) l22 c22 k22
  have b22 := F22.binds (ps := P_take_letters_or_none) fun _ _ _ _ _ _ us hl => match us, hl with | [_], _ => rfl
  have F23 := fun_mk (st := s_take_number) l23 c23 k23
  have b23 := F23.binds (ps := P_take_number) fun _ _ _ _ _ _ us hl => match us, hl with | [_, _, _], _ => rfl
  have F24 := fun_mk (st := s_read_nots) l24 c24 k24
  have b24 := F24.binds (ps := P_read_nots) fun _ _ _ _ _ _ us hl => match us, hl with | [_], _ => rfl
  have F25 := fun_mk (st := s_read_address) l25 c25 k25
  have b25 := F25.binds (ps := P_read_address) fun _ _ _ _ _ _ us hl => match us, hl with | [_], _ => rfl
  have F26 := fun_mk (st := s_read_deed) l26 c26 k26
  have b26 := F26.binds (ps := P_read_deed) fun _ _ _ _ _ _ us hl => match us, hl with | [_], _ => rfl
  have F27 := fun_mk (st := s_read_command) l27 c27 k27
  have b27 := F27.binds (ps := P_read_command) fun _ _ _ _ _ _ us hl => match us, hl with | [_], _ => rfl
  have F28 := fun_mk (st := s_read_script) l28 c28 k28
  have b28 := F28.binds (ps := P_read_script) fun _ _ _ _ _ _ us hl => match us, hl with | [_], _ => rfl
  have F29 := fun_mk (st := s_looked_for) l29 c29 k29
  have b29 := F29.binds (ps := P_looked_for) fun _ _ _ _ _ _ us hl => match us, hl with | [_], _ => rfl
  have F30 := fun_mk (st := s_own_words) l30 c30 k30
  have b30 := F30.binds (ps := P_own_words) fun _ _ _ _ _ _ us hl => match us, hl with | [_], _ => rfl
  have F31 := fun_mk (st := s_letters_together) l31 c31 k31
  have b31 := F31.binds (ps := P_letters_together) fun _ _ _ _ _ _ us hl => match us, hl with | [_], _ => rfl
  have F32 := fun_mk (st := s_is_plain) l32 c32 k32
  have b32 := F32.binds (ps := P_is_plain) fun _ _ _ _ _ _ us hl => match us, hl with | [_], _ => rfl
  have F33 := fun_mk (st := s_stands) l33 c33 k33
  have b33 := F33.binds (ps := P_stands) fun _ _ _ _ _ _ us hl => match us, hl with | [_, _], _ => rfl
  have F34 := fun_mk (st := s_holds_bare) l34 c34 k34
  have b34 := F34.binds (ps := P_holds_bare) fun _ _ _ _ _ _ us hl => match us, hl with | [_, _, _, _], _ => rfl
  have F35 := fun_mk (st := s_holds) l35 c35 k35
  have b35 := F35.binds (ps := P_holds) fun _ _ _ _ _ _ us hl => match us, hl with | [_, _, _, _], _ => rfl
  have F36 := fun_mk (st := s_come_of) l36 c36 k36
  have b36 := F36.binds (ps := P_come_of) fun _ _ _ _ _ _ us hl => match us, hl with | [_, _, _, _], _ => rfl
  have F37 := fun_mk (st := s_Runner_init) l37 c37 k37
  have b37 := F37.binds (ps := P_Runner_init) fun _ _ _ _ _ _ us hl => match us, hl with | [_, _], _ => rfl
  have F38 := fun_mk (st := s_Runner_come) l38 c38 k38
  have b38 := F38.binds (ps := P_Runner_come) fun _ _ _ _ _ _ us hl => match us, hl with | [_, _, _, _], _ => rfl
  have F39 := fun_mk (st := s_run) l39 c39 k39
  have b39 := F39.binds (ps := P_run) fun _ _ _ _ _ _ us hl => match us, hl with | [_, _], _ => rfl
  have F40 := fun_mk (st := s_run_after) l40 c40 k40
  have b40 := F40.binds (ps := P_run_after) fun _ _ _ _ _ _ us hl => match us, hl with | [_, _, _], _ => rfl
  have F41 := fun_mk (st := s_is_used) l41 c41 k41
  have b41 := F41.binds (ps := P_is_used) fun _ _ _ _ _ _ us hl => match us, hl with | [_, _], _ => rfl
  have F42 := fun_mk (st := s_free_letter) l42 c42 k42
  have b42 := F42.binds (ps := P_free_letter) fun _ _ _ _ _ _ us hl => match us, hl with | [_], _ => rfl
  have F43 := fun_mk (st := s_begins_one) l43 c43 k43
  have b43 := F43.binds (ps := P_begins_one) fun _ _ _ _ _ _ us hl => match us, hl with | [_, _], _ => rfl
  have F44 := fun_mk (st := s_longest_end) l44 c44 k44
  have b44 := F44.binds (ps := P_longest_end) fun _ _ _ _ _ _ us hl => match us, hl with | [_, _], _ => rfl
  have F45 := fun_mk (st := s_words_had) l45 c45 k45
  have b45 := F45.binds (ps := P_words_had) fun _ _ _ _ _ _ us hl => match us, hl with | [_, _], _ => rfl
  have F46 := fun_mk (st := s_state_of) l46 c46 k46
  have b46 := F46.binds (ps := P_state_of) fun _ _ _ _ _ _ us hl => match us, hl with | [_, _], _ => rfl
  have F47 := fun_mk (st := s_longer_lines) l47 c47 k47
  have b47 := F47.binds (ps := P_longer_lines) fun _ _ _ _ _ _ us hl => match us, hl with | [_, _, _], _ => rfl
  have F48 := fun_mk (st := s_first_of_states) l48 c48 k48
  have b48 := F48.binds (ps := P_first_of_states) fun _ _ _ _ _ _ us hl => match us, hl with | [_], _ => rfl
  have F49 := fun_mk (st := s_first_lines) l49 c49 k49
  have b49 := F49.binds (ps := P_first_lines) fun _ _ _ _ _ _ us hl => match us, hl with | [_], _ => rfl
  have F50 := fun_mk (st := s_padded) l50 c50 k50
  have b50 := F50.binds (ps := P_padded) fun _ _ _ _ _ _ us hl => match us, hl with | [_, _], _ => rfl
  have F51 := fun_mk (st := s_kinds_of) l51 c51 k51
  have b51 := F51.binds (ps := P_kinds_of) fun _ _ _ _ _ _ us hl => match us, hl with | [_], _ => rfl
  have F52 := fun_mk (st := s_variant_of) l52 c52 k52
  have b52 := F52.binds (ps := P_variant_of) fun _ _ _ _ _ _ us hl => match us, hl with | [_, _, _], _ => rfl
  have F53 := fun_mk (st := s_variants_of) l53 c53 k53
  have b53 := F53.binds (ps := P_variants_of) fun _ _ _ _ _ _ us hl => match us, hl with | [_, _], _ => rfl
  have F54 := fun_mk (st := s_looked_at) l54 c54 k54
  have b54 := F54.binds (ps := P_looked_at) fun _ _ _ _ _ _ us hl => match us, hl with | [_, _], _ => rfl
  have F55 := fun_mk (st := s_line_numbers) l55 c55 k55
  have b55 := F55.binds (ps := P_line_numbers) fun _ _ _ _ _ _ us hl => match us, hl with | [_], _ => rfl
  have F56 := fun_mk (st := s_text_numbers) l56 c56 k56
  have b56 := F56.binds (ps := P_text_numbers) fun _ _ _ _ _ _ us hl => match us, hl with | [_], _ => rfl
  have F57 := fun_mk (st := s_places) l57 c57 k57
  have b57 := F57.binds (ps := P_places) fun _ _ _ _ _ _ us hl => match us, hl with | [], _ => rfl
  have F58 := fun_mk (st := s_first_unlike) l58 c58 k58
  have b58 := F58.binds (ps := P_first_unlike) fun _ _ _ _ _ _ us hl => match us, hl with | [_, _, _, _, _], _ => rfl
  have F59 := fun_mk (st := s_alike) l59 c59 k59
  have b59 := F59.binds (ps := P_alike) fun _ _ _ _ _ _ us hl => match us, hl with | [_, _], _ => rfl
  have F60 := fun_mk (st := s_apart_for) l60 c60 k60
  have b60 := F60.binds (ps := P_apart_for) fun _ _ _ _ _ _ us hl => match us, hl with | [_, _, _], _ => rfl
  have F61 := fun_mk (st := s_undone_fails) l61 c61 k61
  have b61 := F61.binds (ps := P_undone_fails) fun _ _ _ _ _ _ us hl => match us, hl with | [_, _, _], _ => rfl
  have F62 := fun_mk (st := s_order_matters) l62 c62 k62
  have b62 := F62.binds (ps := P_order_matters) fun _ _ _ _ _ _ us hl => match us, hl with | [_, _, _], _ => rfl
  have F63 := fun_mk (st := s_twice_differs) l63 c63 k63
  have b63 := F63.binds (ps := P_twice_differs) fun _ _ _ _ _ _ us hl => match us, hl with | [_, _, _], _ => rfl
  have F64 := fun_mk (st := s_stands_against) l64 c64 k64
  have b64 := F64.binds (ps := P_stands_against) fun _ _ _ _ _ _ us hl => match us, hl with | [_, _, _, _], _ => rfl
  have F65 := fun_mk (st := s_look_through) l65 c65 k65
  have b65 := F65.binds (ps := P_look_through) fun _ _ _ _ _ _ us hl => match us, hl with | [_, _, _, _], _ => rfl
  have F66 := fun_mk (st := s_lines_for_same) l66 c66 k66
  have b66 := F66.binds (ps := P_lines_for_same) fun _ _ _ _ _ _ us hl => match us, hl with | [_], _ => rfl
  have F67 := fun_mk (st := s_later_like) l67 c67 k67
  have b67 := F67.binds (ps := P_later_like) fun _ _ _ _ _ _ us hl => match us, hl with | [_, _], _ => rfl
  have F68 := fun_mk (st := s_same) l68 c68 k68
  have b68 := F68.binds (ps := P_same) fun _ _ _ _ _ _ us hl => match us, hl with | [_, _], _ => rfl
  have F69 := fun_mk (st := s_looks) l69 c69 k69
  have b69 := F69.binds (ps := P_looks) fun _ _ _ _ _ _ us hl => match us, hl with | [_, _, _], _ => rfl
  have F70 := fun_mk (st := s_Desk_init) l70 c70 k70
  have b70 := F70.binds (ps := P_Desk_init) fun _ _ _ _ _ _ us hl => match us, hl with | [_], _ => rfl
  have F71 := fun_mk (st := s_Desk_load) l71 c71 k71
  have b71 := F71.binds (ps := P_Desk_load) fun _ _ _ _ _ _ us hl => match us, hl with | [_, _], _ => rfl
  have F72 := fun_mk (st := s_Desk_load_other) l72 c72 k72
  have b72 := F72.binds (ps := P_Desk_load_other) fun _ _ _ _ _ _ us hl => match us, hl with | [_, _], _ => rfl
  have F73 := fun_mk (st := s_Desk_turn_round) l73 c73 k73
  have b73 := F73.binds (ps := P_Desk_turn_round) fun _ _ _ _ _ _ us hl => match us, hl with | [_], _ => rfl
  have F74 := fun_mk (st := s_Desk_look) l74 c74 k74
  have b74 := F74.binds (ps := P_Desk_look) fun _ _ _ _ _ _ us hl => match us, hl with | [_, _, _], _ => rfl
  have F75 := fun_mk (st := s_Desk_answer) l75 c75 k75
  have b75 := F75.binds (ps := P_Desk_answer) fun _ _ _ _ _ _ us hl => match us, hl with | [_, _], _ => rfl
  have F76 := fun_mk (st := s_call_end) l76 c76 k76
  have b76 := F76.binds (ps := P_call_end) fun _ _ _ _ _ _ us hl => match us, hl with | [_, _], _ => rfl
  have F77 := fun_mk (st := s_answers) l77 c77 k77
  have b77 := F77.binds (ps := P_answers) fun _ _ _ _ _ _ us hl => match us, hl with | [_], _ => rfl
  have T : Txt K mg ⟨cFault, cToken, cAddress, cDeed, cReader, cRunner, cDesk, ow⟩ := {
    g_IF := ⟨_, PySem.W.mg_of X G g0⟩,
    g_ALL := ⟨_, PySem.W.mg_of X G g1⟩,
    g_LINE := ⟨_, PySem.W.mg_of X G g2⟩,
    g_FROM := ⟨_, PySem.W.mg_of X G g3⟩,
    g_TO := ⟨_, PySem.W.mg_of X G g4⟩,
    g_LAST := ⟨_, PySem.W.mg_of X G g5⟩,
    g_HAS := ⟨_, PySem.W.mg_of X G g6⟩,
    g_IS := ⟨_, PySem.W.mg_of X G g7⟩,
    g_NOT := ⟨_, PySem.W.mg_of X G g8⟩,
    g_DELETE := ⟨_, PySem.W.mg_of X G g9⟩,
    g_BEFORE := ⟨_, PySem.W.mg_of X G g10⟩,
    g_AFTER := ⟨_, PySem.W.mg_of X G g11⟩,
    g_CHANGE := ⟨_, PySem.W.mg_of X G g12⟩,
    g_SWAP := ⟨_, PySem.W.mg_of X G g13⟩,
    g_FIRST := ⟨_, PySem.W.mg_of X G g14⟩,
    g_KEEP := ⟨_, PySem.W.mg_of X G g15⟩,
    g_BRING := ⟨_, PySem.W.mg_of X G g16⟩,
    g_TRADE := ⟨_, PySem.W.mg_of X G g17⟩,
    g_SKIP := ⟨_, PySem.W.mg_of X G g18⟩,
    g_STOP := ⟨_, PySem.W.mg_of X G g19⟩,
    g_NONE := ⟨_, PySem.W.mg_of X G g20⟩,
    g_LETTERS := ⟨_, PySem.W.mg_of X G g21⟩,
    g_NUMBER := ⟨_, PySem.W.mg_of X G g22⟩,
    g_SEMICOLON := ⟨_, PySem.W.mg_of X G g23⟩,
    g_END := ⟨_, PySem.W.mg_of X G g24⟩,
    n_len := PySem.W.mg_none_of X G z0,
    n_range := PySem.W.mg_none_of X G z1,
    n_ord := PySem.W.mg_none_of X G z2,
    n_tuple := PySem.W.mg_none_of X G z3,
    n_list := PySem.W.mg_none_of X G z4,
    n_int := PySem.W.mg_none_of X G z5,
    g_OWN_WORDS := PySem.W.mg_of X G aO,
    ow := fun _ => own_sq lO hv,
    g_Fault := PySem.W.mg_of X G aF,
    ex := ⟨⟨_, _, _, _, _, _, _, _, _, _, _, _, _, _, xL⟩, sa, eC, tC, kC⟩,
    xf := ⟨ga, gg, eC, hC⟩,
    nx_code := nC,
    nx_place := nP,
    em := exm_self eC iC tC sC,
    cl_Token := ⟨pgToken, hdToken, poToken, saToken⟩,
    na_Token_what := nToken_what,
    na_Token_place := nToken_place,
    na_Token_word := nToken_word,
    na_Token_amount := nToken_amount,
    cl_Address := ⟨pgAddress, hdAddress, poAddress, saAddress⟩,
    na_Address_nots := nAddress_nots,
    na_Address_what := nAddress_what,
    na_Address_low := nAddress_low,
    na_Address_high := nAddress_high,
    na_Address_word := nAddress_word,
    cl_Deed := ⟨pgDeed, hdDeed, poDeed, saDeed⟩,
    na_Deed_what := nDeed_what,
    na_Deed_word := nDeed_word,
    na_Deed_many := nDeed_many,
    cl_Reader := ⟨pgReader, hdReader, poReader, saReader⟩,
    na_Reader_tokens := nReader_tokens,
    na_Reader_read := nReader_read,
    cl_Runner := ⟨pgRunner, hdRunner, poRunner, saRunner⟩,
    na_Runner_commands := nRunner_commands,
    na_Runner_known := nRunner_known,
    cl_Desk := ⟨pgDesk, hdDesk, poDesk, saDesk⟩,
    na_Desk_held := nDesk_held,
    na_Desk_first := nDesk_first,
    na_Desk_second := nDesk_second,
    d_spells := ⟨_, _, PySem.W.mg_of X G a0, F0, b0⟩,
    d_sort_of_word := ⟨_, _, PySem.W.mg_of X G a1, F1, b1⟩,
    d_Fault_init := ⟨_, _, a2, i2, F2, b2⟩,
    d_Token_init := ⟨_, _, ⟨mkToken, a3, i3, kcToken⟩, PySem.W.mg_of X G aToken, F3, b3⟩,
    d_is_blank := ⟨_, _, PySem.W.mg_of X G a4, F4, b4⟩,
    d_is_letter := ⟨_, _, PySem.W.mg_of X G a5, F5, b5⟩,
    d_is_digit := ⟨_, _, PySem.W.mg_of X G a6, F6, b6⟩,
    d_remark_end := ⟨_, _, PySem.W.mg_of X G a7, F7, b7⟩,
    d_past_blanks := ⟨_, _, PySem.W.mg_of X G a8, F8, b8⟩,
    d_run_end := ⟨_, _, PySem.W.mg_of X G a9, F9, b9⟩,
    d_number_of := ⟨_, _, PySem.W.mg_of X G a10, F10, b10⟩,
    d_word_token := ⟨_, _, PySem.W.mg_of X G a11, F11, b11⟩,
    d_number_token := ⟨_, _, PySem.W.mg_of X G a12, F12, b12⟩,
    d_token_at := ⟨_, _, PySem.W.mg_of X G a13, F13, b13⟩,
    d_read_tokens := ⟨_, _, PySem.W.mg_of X G a14, F14, b14⟩,
    d_Address_init := ⟨_, _, ⟨mkAddress, a15, i15, kcAddress⟩, PySem.W.mg_of X G aAddress, F15, b15⟩,
    d_Deed_init := ⟨_, _, ⟨mkDeed, a16, i16, kcDeed⟩, PySem.W.mg_of X G aDeed, F16, b16⟩,
    d_Reader_init := ⟨_, _, ⟨mkReader, a17, i17, kcReader⟩, PySem.W.mg_of X G aReader, F17, b17⟩,
    d_Reader_now := ⟨_, _, ⟨a18, i18, k18⟩, F18, b18⟩,
    d_Reader_take := ⟨_, _, ⟨a19, i19, k19⟩, F19, b19⟩,
    d_take_sort := ⟨_, _, PySem.W.mg_of X G a20, F20, b20⟩,
    d_take_letters := ⟨_, _, PySem.W.mg_of X G a21, F21, b21⟩,
    d_take_letters_or_none := ⟨_, _, PySem.W.mg_of X G a22, F22, b22⟩,
    d_take_number := ⟨_, _, PySem.W.mg_of X G a23, F23, b23⟩,
    d_read_nots := ⟨_, _, PySem.W.mg_of X G a24, F24, b24⟩,
    d_read_address := ⟨_, _, PySem.W.mg_of X G a25, F25, b25⟩,
    d_read_deed := ⟨_, _, PySem.W.mg_of X G a26, F26, b26⟩,
    d_read_command := ⟨_, _, PySem.W.mg_of X G a27, F27, b27⟩,
    d_read_script := ⟨_, _, PySem.W.mg_of X G a28, F28, b28⟩,
    d_looked_for := ⟨_, _, PySem.W.mg_of X G a29, F29, b29⟩,
    d_own_words := ⟨_, _, PySem.W.mg_of X G a30, F30, b30⟩,
    d_letters_together := ⟨_, _, PySem.W.mg_of X G a31, F31, b31⟩,
    d_is_plain := ⟨_, _, PySem.W.mg_of X G a32, F32, b32⟩,
    d_stands := ⟨_, _, PySem.W.mg_of X G a33, F33, b33⟩,
    d_holds_bare := ⟨_, _, PySem.W.mg_of X G a34, F34, b34⟩,
    d_holds := ⟨_, _, PySem.W.mg_of X G a35, F35, b35⟩,
    d_come_of := ⟨_, _, PySem.W.mg_of X G a36, F36, b36⟩,
    d_Runner_init := ⟨_, _, ⟨mkRunner, a37, i37, kcRunner⟩, PySem.W.mg_of X G aRunner, F37, b37⟩,
    d_Runner_come := ⟨_, _, ⟨a38, i38, k38⟩, F38, b38⟩,
    d_run := ⟨_, _, PySem.W.mg_of X G a39, F39, b39⟩,
    d_run_after := ⟨_, _, PySem.W.mg_of X G a40, F40, b40⟩,
    d_is_used := ⟨_, _, PySem.W.mg_of X G a41, F41, b41⟩,
    d_free_letter := ⟨_, _, PySem.W.mg_of X G a42, F42, b42⟩,
    d_begins_one := ⟨_, _, PySem.W.mg_of X G a43, F43, b43⟩,
    d_longest_end := ⟨_, _, PySem.W.mg_of X G a44, F44, b44⟩,
    d_words_had := ⟨_, _, PySem.W.mg_of X G a45, F45, b45⟩,
    d_state_of := ⟨_, _, PySem.W.mg_of X G a46, F46, b46⟩,
    d_longer_lines := ⟨_, _, PySem.W.mg_of X G a47, F47, b47⟩,
    d_first_of_states := ⟨_, _, PySem.W.mg_of X G a48, F48, b48⟩,
    d_first_lines := ⟨_, _, PySem.W.mg_of X G a49, F49, b49⟩,
    d_padded := ⟨_, _, PySem.W.mg_of X G a50, F50, b50⟩,
    d_kinds_of := ⟨_, _, PySem.W.mg_of X G a51, F51, b51⟩,
    d_variant_of := ⟨_, _, PySem.W.mg_of X G a52, F52, b52⟩,
    d_variants_of := ⟨_, _, PySem.W.mg_of X G a53, F53, b53⟩,
    d_looked_at := ⟨_, _, PySem.W.mg_of X G a54, F54, b54⟩,
    d_line_numbers := ⟨_, _, PySem.W.mg_of X G a55, F55, b55⟩,
    d_text_numbers := ⟨_, _, PySem.W.mg_of X G a56, F56, b56⟩,
    d_places := ⟨_, _, PySem.W.mg_of X G a57, F57, b57⟩,
    d_first_unlike := ⟨_, _, PySem.W.mg_of X G a58, F58, b58⟩,
    d_alike := ⟨_, _, PySem.W.mg_of X G a59, F59, b59⟩,
    d_apart_for := ⟨_, _, PySem.W.mg_of X G a60, F60, b60⟩,
    d_undone_fails := ⟨_, _, PySem.W.mg_of X G a61, F61, b61⟩,
    d_order_matters := ⟨_, _, PySem.W.mg_of X G a62, F62, b62⟩,
    d_twice_differs := ⟨_, _, PySem.W.mg_of X G a63, F63, b63⟩,
    d_stands_against := ⟨_, _, PySem.W.mg_of X G a64, F64, b64⟩,
    d_look_through := ⟨_, _, PySem.W.mg_of X G a65, F65, b65⟩,
    d_lines_for_same := ⟨_, _, PySem.W.mg_of X G a66, F66, b66⟩,
    d_later_like := ⟨_, _, PySem.W.mg_of X G a67, F67, b67⟩,
    d_same := ⟨_, _, PySem.W.mg_of X G a68, F68, b68⟩,
    d_looks := ⟨_, _, PySem.W.mg_of X G a69, F69, b69⟩,
    d_Desk_init := ⟨_, _, ⟨mkDesk, a70, i70, kcDesk⟩, PySem.W.mg_of X G aDesk, F70, b70⟩,
    d_Desk_load := ⟨_, _, ⟨a71, i71, k71⟩, F71, b71⟩,
    d_Desk_load_other := ⟨_, _, ⟨a72, i72, k72⟩, F72, b72⟩,
    d_Desk_turn_round := ⟨_, _, ⟨a73, i73, k73⟩, F73, b73⟩,
    d_Desk_look := ⟨_, _, ⟨a74, i74, k74⟩, F74, b74⟩,
    d_Desk_answer := ⟨_, _, ⟨a75, i75, k75⟩, F75, b75⟩,
    d_call_end := ⟨_, _, PySem.W.mg_of X G a76, F76, b76⟩,
    d_answers := ⟨_, _, PySem.W.mg_of X G a77, F77, b77⟩ }
  exact ⟨_, fun s us hu => match us, hu with | [_], _ => .of_eq rfl, fun base _ _ => fn_answers T F77⟩
end Lw

/-! the request -/
namespace Lw
open PySem PySem.Spec PyProof.Rows L2
theorem asked_of {l : List Int} (h : PyVasedd.answers_asked l = true) : ∃ cs, Segs l cs ∧ (played none cs).length ≤ 10000000 ∧ PyVasedd.answers l = played none cs := by
  unfold PyVasedd.answers_asked at h
  cases e : PyFlat.calls PyVasedd.shape l.length l with
  | none => rw [e] at h; cases h
  | some raw =>
    rw [e] at h
    dsimp only at h
    have ea : PyVasedd.answers l = played none raw := by
      unfold PyVasedd.answers PyVasedd.calls
      rw [e]
      rfl
    rw [Bool.and_eq_true, Bool.and_eq_true, Bool.and_eq_true, Bool.and_eq_true] at h
    obtain ⟨⟨⟨⟨_, _⟩, hb⟩, _⟩, hs⟩ := h
    have hs' : decide ((PyVasedd.answers l).length ≤ 10000000) = true := hs
    rw [decide_eq_true_iff, ea] at hs'
    exact ⟨raw, segs_of _ _ _ e hb, hs', ea⟩
theorem ask_law {K : PySem.W.Frag} {H : Hp} {xs : List V} {a : PySem.W.Codec.denoteAll PySem.Challenge.rw_linescriptsworks_s01_answers.args} (hwi : PySem.W.Codec.withinAll PySem.Challenge.rw_linescriptsworks_s01_answers.args a = true)
    (hask : PySem.W.Codec.app PySem.Challenge.rw_linescriptsworks_s01_answers.args PySem.Challenge.rw_linescriptsworks_s01_answers.asked a = true) (hx : DwAll K H xs (PySem.W.Codec.encAll PySem.Challenge.rw_linescriptsworks_s01_answers.args a)) :
    sp_answers K xs H (fun v H' => Dw K H' v (PySem.Challenge.rw_linescriptsworks_s01_answers.ret.enc (PySem.W.Codec.app PySem.Challenge.rw_linescriptsworks_s01_answers.args PySem.Challenge.rw_linescriptsworks_s01_answers.f a))) fun _ _ _ => False := by
  cases hx with
  | cons h1 h2 =>
    cases h2
    cases h1 with
    | lst hs ha =>
      have e := L2.ints_dw a.1 _ ha
      subst e
      have q : ((PySem.W.Codec.inLen 0 17000 a.1 && a.1.all (PySem.W.Codec.inInt (-1000000000000000000) 1000000000000000000)) && true) = true := hwi
      rw [Bool.and_eq_true, Bool.and_eq_true] at q
      obtain ⟨cs, sg, hl, ea⟩ := asked_of (l := a.1) hask
      refine ⟨_, a.1, cs, rfl, hs, Nat.le_trans (PySem.W.Codec.inNat_iff.mp q.1.1).2 (by decide), sg, hl, fun H' p hp => ?_⟩
      rw [← ea] at hp
      exact .lst (L2.SqL.of hp) (L2.dw_ints _)
end Lw

open PySem PySem.W PyProof.Rows
set_option maxRecDepth 100000 in
set_option maxHeartbeats 16000000 in
theorem PySem.Challenge.cw_linescriptsworks_s01_answers_holds : PySem.Challenge.rw_linescriptsworks_s01_answers.Holds := by
  w_on; k_headS; (case hw => exact ⟨[.list [.int 7]], by decide +kernel, by decide +kernel⟩)
  k_fillS
  refine L2.walk_specK (r := PySem.Challenge.rw_linescriptsworks_s01_answers) (k := 13) (CX := L2.CX0) (ps := Lw.P_answers) (sp := Lw.sp_answers) (by decide +kernel) rfl rfl ⟨rfl, by decide, by decide⟩ (fun w h Y => PySem.W.kIn_of Y) ?F ?S (fun _ _ _ _ z => z)
  case F =>
    intro w mg fa h Y KX G hmg
    refine' Lw.all_mk KX G hmg ?zw_g0 ?zw_g1 ?zw_g2 ?zw_g3 ?zw_g4 ?zw_g5 ?zw_g6 ?zw_g7 ?zw_g8 ?zw_g9 ?zw_g10 ?zw_g11 ?zw_g12 ?zw_g13 ?zw_g14 ?zw_g15 ?zw_g16 ?zw_g17 ?zw_g18 ?zw_g19 ?zw_g20 ?zw_g21 ?zw_g22 ?zw_g23 ?zw_g24 ?zw_z0 ?zw_z1 ?zw_z2 ?zw_z3 ?zw_z4 ?zw_z5 ?zw_aO ?zw_lO ?zw_hv ?zw_aF ?zw_xL ?zw_sa ?zw_ga ?zw_gg ?zw_nC ?zw_nP ?zw_eC ?zw_tC ?zw_hC ?zw_iC ?zw_sC ?zw_kC ?zw_aToken ?zw_pgToken ?zw_hdToken ?zw_poToken ?zw_saToken ?zw_mkToken ?zw_kcToken ?zw_nToken_what ?zw_nToken_place ?zw_nToken_word ?zw_nToken_amount ?zw_aAddress ?zw_pgAddress ?zw_hdAddress ?zw_poAddress ?zw_saAddress ?zw_mkAddress ?zw_kcAddress ?zw_nAddress_nots ?zw_nAddress_what ?zw_nAddress_low ?zw_nAddress_high ?zw_nAddress_word ?zw_aDeed ?zw_pgDeed ?zw_hdDeed ?zw_poDeed ?zw_saDeed ?zw_mkDeed ?zw_kcDeed ?zw_nDeed_what ?zw_nDeed_word ?zw_nDeed_many ?zw_aReader ?zw_pgReader ?zw_hdReader ?zw_poReader ?zw_saReader ?zw_mkReader ?zw_kcReader ?zw_nReader_tokens ?zw_nReader_read ?zw_aRunner ?zw_pgRunner ?zw_hdRunner ?zw_poRunner ?zw_saRunner ?zw_mkRunner ?zw_kcRunner ?zw_nRunner_commands ?zw_nRunner_known ?zw_aDesk ?zw_pgDesk ?zw_hdDesk ?zw_poDesk ?zw_saDesk ?zw_mkDesk ?zw_kcDesk ?zw_nDesk_held ?zw_nDesk_first ?zw_nDesk_second ?zw_a0 ?zw_l0 ?zw_c0 ?zw_k0 ?zw_a1 ?zw_l1 ?zw_c1 ?zw_k1 ?zw_a2 ?zw_i2 ?zw_l2 ?zw_c2 ?zw_k2 ?zw_a3 ?zw_i3 ?zw_l3 ?zw_c3 ?zw_k3 ?zw_a4 ?zw_l4 ?zw_c4 ?zw_k4 ?zw_a5 ?zw_l5 ?zw_c5 ?zw_k5 ?zw_a6 ?zw_l6 ?zw_c6 ?zw_k6 ?zw_a7 ?zw_l7 ?zw_c7 ?zw_k7 ?zw_a8 ?zw_l8 ?zw_c8 ?zw_k8 ?zw_a9 ?zw_l9 ?zw_c9 ?zw_k9 ?zw_a10 ?zw_l10 ?zw_c10 ?zw_k10 ?zw_a11 ?zw_l11 ?zw_c11 ?zw_k11 ?zw_a12 ?zw_l12 ?zw_c12 ?zw_k12 ?zw_a13 ?zw_l13 ?zw_c13 ?zw_k13 ?zw_a14 ?zw_l14 ?zw_c14 ?zw_k14 ?zw_a15 ?zw_i15 ?zw_l15 ?zw_c15 ?zw_k15 ?zw_a16 ?zw_i16 ?zw_l16 ?zw_c16 ?zw_k16 ?zw_a17 ?zw_i17 ?zw_l17 ?zw_c17 ?zw_k17 ?zw_a18 ?zw_i18 ?zw_l18 ?zw_c18 ?zw_k18 ?zw_a19 ?zw_i19 ?zw_l19 ?zw_c19 ?zw_k19 ?zw_a20 ?zw_l20 ?zw_c20 ?zw_k20 ?zw_a21 ?zw_l21 ?zw_c21 ?zw_k21 ?zw_a22 ?zw_l22 ?zw_c22 ?zw_k22 ?zw_a23 ?zw_l23 ?zw_c23 ?zw_k23 ?zw_a24 ?zw_l24 ?zw_c24 ?zw_k24 ?zw_a25 ?zw_l25 ?zw_c25 ?zw_k25 ?zw_a26 ?zw_l26 ?zw_c26 ?zw_k26 ?zw_a27 ?zw_l27 ?zw_c27 ?zw_k27 ?zw_a28 ?zw_l28 ?zw_c28 ?zw_k28 ?zw_a29 ?zw_l29 ?zw_c29 ?zw_k29 ?zw_a30 ?zw_l30 ?zw_c30 ?zw_k30 ?zw_a31 ?zw_l31 ?zw_c31 ?zw_k31 ?zw_a32 ?zw_l32 ?zw_c32 ?zw_k32 ?zw_a33 ?zw_l33 ?zw_c33 ?zw_k33 ?zw_a34 ?zw_l34 ?zw_c34 ?zw_k34 ?zw_a35 ?zw_l35 ?zw_c35 ?zw_k35 ?zw_a36 ?zw_l36 ?zw_c36 ?zw_k36 ?zw_a37 ?zw_i37 ?zw_l37 ?zw_c37 ?zw_k37 ?zw_a38 ?zw_i38 ?zw_l38 ?zw_c38 ?zw_k38 ?zw_a39 ?zw_l39 ?zw_c39 ?zw_k39 ?zw_a40 ?zw_l40 ?zw_c40 ?zw_k40 ?zw_a41 ?zw_l41 ?zw_c41 ?zw_k41 ?zw_a42 ?zw_l42 ?zw_c42 ?zw_k42 ?zw_a43 ?zw_l43 ?zw_c43 ?zw_k43 ?zw_a44 ?zw_l44 ?zw_c44 ?zw_k44 ?zw_a45 ?zw_l45 ?zw_c45 ?zw_k45 ?zw_a46 ?zw_l46 ?zw_c46 ?zw_k46 ?zw_a47 ?zw_l47 ?zw_c47 ?zw_k47 ?zw_a48 ?zw_l48 ?zw_c48 ?zw_k48 ?zw_a49 ?zw_l49 ?zw_c49 ?zw_k49 ?zw_a50 ?zw_l50 ?zw_c50 ?zw_k50 ?zw_a51 ?zw_l51 ?zw_c51 ?zw_k51 ?zw_a52 ?zw_l52 ?zw_c52 ?zw_k52 ?zw_a53 ?zw_l53 ?zw_c53 ?zw_k53 ?zw_a54 ?zw_l54 ?zw_c54 ?zw_k54 ?zw_a55 ?zw_l55 ?zw_c55 ?zw_k55 ?zw_a56 ?zw_l56 ?zw_c56 ?zw_k56 ?zw_a57 ?zw_l57 ?zw_c57 ?zw_k57 ?zw_a58 ?zw_l58 ?zw_c58 ?zw_k58 ?zw_a59 ?zw_l59 ?zw_c59 ?zw_k59 ?zw_a60 ?zw_l60 ?zw_c60 ?zw_k60 ?zw_a61 ?zw_l61 ?zw_c61 ?zw_k61 ?zw_a62 ?zw_l62 ?zw_c62 ?zw_k62 ?zw_a63 ?zw_l63 ?zw_c63 ?zw_k63 ?zw_a64 ?zw_l64 ?zw_c64 ?zw_k64 ?zw_a65 ?zw_l65 ?zw_c65 ?zw_k65 ?zw_a66 ?zw_l66 ?zw_c66 ?zw_k66 ?zw_a67 ?zw_l67 ?zw_c67 ?zw_k67 ?zw_a68 ?zw_l68 ?zw_c68 ?zw_k68 ?zw_a69 ?zw_l69 ?zw_c69 ?zw_k69 ?zw_a70 ?zw_i70 ?zw_l70 ?zw_c70 ?zw_k70 ?zw_a71 ?zw_i71 ?zw_l71 ?zw_c71 ?zw_k71 ?zw_a72 ?zw_i72 ?zw_l72 ?zw_c72 ?zw_k72 ?zw_a73 ?zw_i73 ?zw_l73 ?zw_c73 ?zw_k73 ?zw_a74 ?zw_i74 ?zw_l74 ?zw_c74 ?zw_k74 ?zw_a75 ?zw_i75 ?zw_l75 ?zw_c75 ?zw_k75 ?zw_a76 ?zw_l76 ?zw_c76 ?zw_k76 ?zw_a77 ?zw_l77 ?zw_c77 ?zw_k77
    (case zw_g0 => k_is)
    (case zw_g1 => k_is)
    (case zw_g2 => k_is)
    (case zw_g3 => k_is)
    (case zw_g4 => k_is)
    (case zw_g5 => k_is)
    (case zw_g6 => k_is)
    (case zw_g7 => k_is)
    (case zw_g8 => k_is)
    (case zw_g9 => k_is)
    (case zw_g10 => k_is)
    (case zw_g11 => k_is)
    (case zw_g12 => k_is)
    (case zw_g13 => k_is)
    (case zw_g14 => k_is)
    (case zw_g15 => k_is)
    (case zw_g16 => k_is)
    (case zw_g17 => k_is)
    (case zw_g18 => k_is)
    (case zw_g19 => k_is)
    (case zw_g20 => k_is)
    (case zw_g21 => k_is)
    (case zw_g22 => k_is)
    (case zw_g23 => k_is)
    (case zw_g24 => k_is)
    (case zw_z0 => k_is)
    (case zw_z1 => k_is)
    (case zw_z2 => k_is)
    (case zw_z3 => k_is)
    (case zw_z4 => k_is)
    (case zw_z5 => k_is)
    (case zw_aO => k_is)
    (case zw_lO => k_is)
    (case zw_hv => rfl)
    (case zw_aF => k_is)
    (case zw_xL => k_is)
    (case zw_sa => k_is)
    (case zw_ga => k_is)
    (case zw_gg => k_is)
    (case zw_nC => k_is)
    (case zw_nP => k_is)
    (case zw_eC => k_is)
    (case zw_tC => k_is)
    (case zw_hC => k_is)
    (case zw_iC => k_is)
    (case zw_sC => first | rfl | k_is)
    (case zw_kC => k_is)
    (case zw_aToken => k_is)
    (case zw_pgToken => k_is)
    (case zw_hdToken => k_is)
    (case zw_poToken => k_is)
    (case zw_saToken => k_is)
    (case zw_mkToken => k_is)
    (case zw_kcToken => k_is)
    (case zw_nToken_what => k_is)
    (case zw_nToken_place => k_is)
    (case zw_nToken_word => k_is)
    (case zw_nToken_amount => k_is)
    (case zw_aAddress => k_is)
    (case zw_pgAddress => k_is)
    (case zw_hdAddress => k_is)
    (case zw_poAddress => k_is)
    (case zw_saAddress => k_is)
    (case zw_mkAddress => k_is)
    (case zw_kcAddress => k_is)
    (case zw_nAddress_nots => k_is)
    (case zw_nAddress_what => k_is)
    (case zw_nAddress_low => k_is)
    (case zw_nAddress_high => k_is)
    (case zw_nAddress_word => k_is)
    (case zw_aDeed => k_is)
    (case zw_pgDeed => k_is)
    (case zw_hdDeed => k_is)
    (case zw_poDeed => k_is)
    (case zw_saDeed => k_is)
    (case zw_mkDeed => k_is)
    (case zw_kcDeed => k_is)
    (case zw_nDeed_what => k_is)
    (case zw_nDeed_word => k_is)
    (case zw_nDeed_many => k_is)
    (case zw_aReader => k_is)
    (case zw_pgReader => k_is)
    (case zw_hdReader => k_is)
    (case zw_poReader => k_is)
    (case zw_saReader => k_is)
    (case zw_mkReader => k_is)
    (case zw_kcReader => k_is)
    (case zw_nReader_tokens => k_is)
    (case zw_nReader_read => k_is)
    (case zw_aRunner => k_is)
    (case zw_pgRunner => k_is)
    (case zw_hdRunner => k_is)
    (case zw_poRunner => k_is)
    (case zw_saRunner => k_is)
    (case zw_mkRunner => k_is)
    (case zw_kcRunner => k_is)
    (case zw_nRunner_commands => k_is)
    (case zw_nRunner_known => k_is)
    (case zw_aDesk => k_is)
    (case zw_pgDesk => k_is)
    (case zw_hdDesk => k_is)
    (case zw_poDesk => k_is)
    (case zw_saDesk => k_is)
    (case zw_mkDesk => k_is)
    (case zw_kcDesk => k_is)
    (case zw_nDesk_held => k_is)
    (case zw_nDesk_first => k_is)
    (case zw_nDesk_second => k_is)
    (case zw_a0 => k_is)
    (case zw_l0 => k_is)
    (case zw_c0 => k_is)
    (case zw_k0 => k_is)
    (case zw_a1 => k_is)
    (case zw_l1 => k_is)
    (case zw_c1 => k_is)
    (case zw_k1 => k_is)
    (case zw_a2 => k_is)
    (case zw_i2 => k_is)
    (case zw_l2 => k_is)
    (case zw_c2 => k_is)
    (case zw_k2 => k_is)
    (case zw_a3 => k_is)
    (case zw_i3 => k_is)
    (case zw_l3 => k_is)
    (case zw_c3 => k_is)
    (case zw_k3 => k_is)
    (case zw_a4 => k_is)
    (case zw_l4 => k_is)
    (case zw_c4 => k_is)
    (case zw_k4 => k_is)
    (case zw_a5 => k_is)
    (case zw_l5 => k_is)
    (case zw_c5 => k_is)
    (case zw_k5 => k_is)
    (case zw_a6 => k_is)
    (case zw_l6 => k_is)
    (case zw_c6 => k_is)
    (case zw_k6 => k_is)
    (case zw_a7 => k_is)
    (case zw_l7 => k_is)
    (case zw_c7 => k_is)
    (case zw_k7 => k_is)
    (case zw_a8 => k_is)
    (case zw_l8 => k_is)
    (case zw_c8 => k_is)
    (case zw_k8 => k_is)
    (case zw_a9 => k_is)
    (case zw_l9 => k_is)
    (case zw_c9 => k_is)
    (case zw_k9 => k_is)
    (case zw_a10 => k_is)
    (case zw_l10 => k_is)
    (case zw_c10 => k_is)
    (case zw_k10 => k_is)
    (case zw_a11 => k_is)
    (case zw_l11 => k_is)
    (case zw_c11 => k_is)
    (case zw_k11 => k_is)
    (case zw_a12 => k_is)
    (case zw_l12 => k_is)
    (case zw_c12 => k_is)
    (case zw_k12 => k_is)
    (case zw_a13 => k_is)
    (case zw_l13 => k_is)
    (case zw_c13 => k_is)
    (case zw_k13 => k_is)
    (case zw_a14 => k_is)
    (case zw_l14 => k_is)
    (case zw_c14 => k_is)
    (case zw_k14 => k_is)
    (case zw_a15 => k_is)
    (case zw_i15 => k_is)
    (case zw_l15 => k_is)
    (case zw_c15 => k_is)
    (case zw_k15 => k_is)
    (case zw_a16 => k_is)
    (case zw_i16 => k_is)
    (case zw_l16 => k_is)
    (case zw_c16 => k_is)
    (case zw_k16 => k_is)
    (case zw_a17 => k_is)
    (case zw_i17 => k_is)
    (case zw_l17 => k_is)
    (case zw_c17 => k_is)
    (case zw_k17 => k_is)
    (case zw_a18 => k_is)
    (case zw_i18 => k_is)
    (case zw_l18 => k_is)
    (case zw_c18 => k_is)
    (case zw_k18 => k_is)
    (case zw_a19 => k_is)
    (case zw_i19 => k_is)
    (case zw_l19 => k_is)
    (case zw_c19 => k_is)
    (case zw_k19 => k_is)
    (case zw_a20 => k_is)
    (case zw_l20 => k_is)
    (case zw_c20 => k_is)
    (case zw_k20 => k_is)
    (case zw_a21 => k_is)
    (case zw_l21 => k_is)
    (case zw_c21 => k_is)
    (case zw_k21 => k_is)
    (case zw_a22 => k_is)
    (case zw_l22 => k_is)
    (case zw_c22 => k_is)
    (case zw_k22 => k_is)
    (case zw_a23 => k_is)
    (case zw_l23 => k_is)
    (case zw_c23 => k_is)
    (case zw_k23 => k_is)
    (case zw_a24 => k_is)
    (case zw_l24 => k_is)
    (case zw_c24 => k_is)
    (case zw_k24 => k_is)
    (case zw_a25 => k_is)
    (case zw_l25 => k_is)
    (case zw_c25 => k_is)
    (case zw_k25 => k_is)
    (case zw_a26 => k_is)
    (case zw_l26 => k_is)
    (case zw_c26 => k_is)
    (case zw_k26 => k_is)
    (case zw_a27 => k_is)
    (case zw_l27 => k_is)
    (case zw_c27 => k_is)
    (case zw_k27 => k_is)
    (case zw_a28 => k_is)
    (case zw_l28 => k_is)
    (case zw_c28 => k_is)
    (case zw_k28 => k_is)
    (case zw_a29 => k_is)
    (case zw_l29 => k_is)
    (case zw_c29 => k_is)
    (case zw_k29 => k_is)
    (case zw_a30 => k_is)
    (case zw_l30 => k_is)
    (case zw_c30 => k_is)
    (case zw_k30 => k_is)
    (case zw_a31 => k_is)
    (case zw_l31 => k_is)
    (case zw_c31 => k_is)
    (case zw_k31 => k_is)
    (case zw_a32 => k_is)
    (case zw_l32 => k_is)
    (case zw_c32 => k_is)
    (case zw_k32 => k_is)
    (case zw_a33 => k_is)
    (case zw_l33 => k_is)
    (case zw_c33 => k_is)
    (case zw_k33 => k_is)
    (case zw_a34 => k_is)
    (case zw_l34 => k_is)
    (case zw_c34 => k_is)
    (case zw_k34 => k_is)
    (case zw_a35 => k_is)
    (case zw_l35 => k_is)
    (case zw_c35 => k_is)
    (case zw_k35 => k_is)
    (case zw_a36 => k_is)
    (case zw_l36 => k_is)
    (case zw_c36 => k_is)
    (case zw_k36 => k_is)
    (case zw_a37 => k_is)
    (case zw_i37 => k_is)
    (case zw_l37 => k_is)
    (case zw_c37 => k_is)
    (case zw_k37 => k_is)
    (case zw_a38 => k_is)
    (case zw_i38 => k_is)
    (case zw_l38 => k_is)
    (case zw_c38 => k_is)
    (case zw_k38 => k_is)
    (case zw_a39 => k_is)
    (case zw_l39 => k_is)
    (case zw_c39 => k_is)
    (case zw_k39 => k_is)
    (case zw_a40 => k_is)
    (case zw_l40 => k_is)
    (case zw_c40 => k_is)
    (case zw_k40 => k_is)
    (case zw_a41 => k_is)
    (case zw_l41 => k_is)
    (case zw_c41 => k_is)
    (case zw_k41 => k_is)
    (case zw_a42 => k_is)
    (case zw_l42 => k_is)
    (case zw_c42 => k_is)
    (case zw_k42 => k_is)
    (case zw_a43 => k_is)
    (case zw_l43 => k_is)
    (case zw_c43 => k_is)
    (case zw_k43 => k_is)
    (case zw_a44 => k_is)
    (case zw_l44 => k_is)
    (case zw_c44 => k_is)
    (case zw_k44 => k_is)
    (case zw_a45 => k_is)
    (case zw_l45 => k_is)
    (case zw_c45 => k_is)
    (case zw_k45 => k_is)
    (case zw_a46 => k_is)
    (case zw_l46 => k_is)
    (case zw_c46 => k_is)
    (case zw_k46 => k_is)
    (case zw_a47 => k_is)
    (case zw_l47 => k_is)
    (case zw_c47 => k_is)
    (case zw_k47 => k_is)
    (case zw_a48 => k_is)
    (case zw_l48 => k_is)
    (case zw_c48 => k_is)
    (case zw_k48 => k_is)
    (case zw_a49 => k_is)
    (case zw_l49 => k_is)
    (case zw_c49 => k_is)
    (case zw_k49 => k_is)
    (case zw_a50 => k_is)
    (case zw_l50 => k_is)
    (case zw_c50 => k_is)
    (case zw_k50 => k_is)
    (case zw_a51 => k_is)
    (case zw_l51 => k_is)
    (case zw_c51 => k_is)
    (case zw_k51 => k_is)
    (case zw_a52 => k_is)
    (case zw_l52 => k_is)
    (case zw_c52 => k_is)
    (case zw_k52 => k_is)
    (case zw_a53 => k_is)
    (case zw_l53 => k_is)
    (case zw_c53 => k_is)
    (case zw_k53 => k_is)
    (case zw_a54 => k_is)
    (case zw_l54 => k_is)
    (case zw_c54 => k_is)
    (case zw_k54 => k_is)
    (case zw_a55 => k_is)
    (case zw_l55 => k_is)
    (case zw_c55 => k_is)
    (case zw_k55 => k_is)
    (case zw_a56 => k_is)
    (case zw_l56 => k_is)
    (case zw_c56 => k_is)
    (case zw_k56 => k_is)
    (case zw_a57 => k_is)
    (case zw_l57 => k_is)
    (case zw_c57 => k_is)
    (case zw_k57 => k_is)
    (case zw_a58 => k_is)
    (case zw_l58 => k_is)
    (case zw_c58 => k_is)
    (case zw_k58 => k_is)
    (case zw_a59 => k_is)
    (case zw_l59 => k_is)
    (case zw_c59 => k_is)
    (case zw_k59 => k_is)
    (case zw_a60 => k_is)
    (case zw_l60 => k_is)
    (case zw_c60 => k_is)
    (case zw_k60 => k_is)
    (case zw_a61 => k_is)
    (case zw_l61 => k_is)
    (case zw_c61 => k_is)
    (case zw_k61 => k_is)
    (case zw_a62 => k_is)
    (case zw_l62 => k_is)
    (case zw_c62 => k_is)
    (case zw_k62 => k_is)
    (case zw_a63 => k_is)
    (case zw_l63 => k_is)
    (case zw_c63 => k_is)
    (case zw_k63 => k_is)
    (case zw_a64 => k_is)
    (case zw_l64 => k_is)
    (case zw_c64 => k_is)
    (case zw_k64 => k_is)
    (case zw_a65 => k_is)
    (case zw_l65 => k_is)
    (case zw_c65 => k_is)
    (case zw_k65 => k_is)
    (case zw_a66 => k_is)
    (case zw_l66 => k_is)
    (case zw_c66 => k_is)
    (case zw_k66 => k_is)
    (case zw_a67 => k_is)
    (case zw_l67 => k_is)
    (case zw_c67 => k_is)
    (case zw_k67 => k_is)
    (case zw_a68 => k_is)
    (case zw_l68 => k_is)
    (case zw_c68 => k_is)
    (case zw_k68 => k_is)
    (case zw_a69 => k_is)
    (case zw_l69 => k_is)
    (case zw_c69 => k_is)
    (case zw_k69 => k_is)
    (case zw_a70 => k_is)
    (case zw_i70 => k_is)
    (case zw_l70 => k_is)
    (case zw_c70 => k_is)
    (case zw_k70 => k_is)
    (case zw_a71 => k_is)
    (case zw_i71 => k_is)
    (case zw_l71 => k_is)
    (case zw_c71 => k_is)
    (case zw_k71 => k_is)
    (case zw_a72 => k_is)
    (case zw_i72 => k_is)
    (case zw_l72 => k_is)
    (case zw_c72 => k_is)
    (case zw_k72 => k_is)
    (case zw_a73 => k_is)
    (case zw_i73 => k_is)
    (case zw_l73 => k_is)
    (case zw_c73 => k_is)
    (case zw_k73 => k_is)
    (case zw_a74 => k_is)
    (case zw_i74 => k_is)
    (case zw_l74 => k_is)
    (case zw_c74 => k_is)
    (case zw_k74 => k_is)
    (case zw_a75 => k_is)
    (case zw_i75 => k_is)
    (case zw_l75 => k_is)
    (case zw_c75 => k_is)
    (case zw_k75 => k_is)
    (case zw_a76 => k_is)
    (case zw_l76 => k_is)
    (case zw_c76 => k_is)
    (case zw_k76 => k_is)
    (case zw_a77 => k_is)
    (case zw_l77 => k_is)
    (case zw_c77 => k_is)
    (case zw_k77 => k_is)
  case S =>
    intro K H xs a hO hwi hask hx
    exact Lw.ask_law hwi hask hx

