import PyProof.Rows.All
import Wide.All
import OpenK.AllK
import Wide.FinOn
import HandS.ForMost
import HandS.TupAny
import HandS.TupLe
import HandS.IsInst
import HandS.StrMore
import HandS.Deep
import HandS.Style
import HandS.SortInts
import HandS.Ends
import KE.KSortTupG
import PyProof.ReprBulk
import PySem.Challenge.RW_lowland_k11_whole_tokens_and_what_is_wro
set_option Elab.async false
set_option linter.all false
set_option maxRecDepth 100000
set_option maxHeartbeats 4000000
/-! Mirror layer, part 1: plain data, what stands for it on the heap, frozen and owned parts, environments. -/
namespace MP
open PySem PySem.Spec L2

structure Wd where
  P : Program
  w : World
  K : PySem.W.Frag

inductive D where
  | non
  | bl (b : Bool)
  | int (i : Int)
  | str (s : Str)
  | scr (ns : List Int)
  | tup (o : Bool) (xs : List D)
  | lst (o : Bool) (xs : List D)
  | dct (o : Bool) (ks : List Key) (xs : List D)
  deriving Inhabited

mutual
def D.frz : D → D
  | .tup _ xs => .tup false (frzL xs)
  | .lst _ xs => .lst false (frzL xs)
  | .dct _ ks xs => .dct false ks (frzL xs)
  | .non => .non
  | .bl b => .bl b
  | .int i => .int i
  | .str s => .str s
  | .scr ns => .scr ns
def frzL : List D → List D
  | [] => []
  | x :: xs => x.frz :: frzL xs
end
mutual
def D.frozen : D → Bool
  | .tup o xs => !o && frozenL xs
  | .lst o xs => !o && frozenL xs
  | .dct o _ xs => !o && frozenL xs
  | .non => true
  | .bl _ => true
  | .int _ => true
  | .str _ => true
  | .scr _ => true
def frozenL : List D → Bool
  | [] => true
  | x :: xs => x.frozen && frozenL xs
end
theorem frzL_map : ∀ xs : List D, frzL xs = xs.map D.frz
  | [] => rfl
  | x :: xs => by rw [frzL, frzL_map xs]; rfl
theorem frozenL_all : ∀ xs : List D, frozenL xs = xs.all D.frozen
  | [] => rfl
  | x :: xs => by rw [frozenL, frozenL_all xs]; rfl
mutual
theorem frz_of_frozen : ∀ d : D, d.frozen = true → d.frz = d
  | .tup o xs, h => by
    rw [D.frozen, Bool.and_eq_true, Bool.not_eq_true'] at h
    rw [D.frz, frzL_of_frozen xs h.2, h.1]
  | .lst o xs, h => by
    rw [D.frozen, Bool.and_eq_true, Bool.not_eq_true'] at h
    rw [D.frz, frzL_of_frozen xs h.2, h.1]
  | .dct o ks xs, h => by
    rw [D.frozen, Bool.and_eq_true, Bool.not_eq_true'] at h
    rw [D.frz, frzL_of_frozen xs h.2, h.1]
  | .non, _ => rfl
  | .bl _, _ => rfl
  | .int _, _ => rfl
  | .str _, _ => rfl
  | .scr _, _ => rfl
theorem frzL_of_frozen : ∀ xs : List D, frozenL xs = true → frzL xs = xs
  | [], _ => rfl
  | x :: xs, h => by
    rw [frozenL, Bool.and_eq_true] at h
    rw [frzL, frz_of_frozen x h.1, frzL_of_frozen xs h.2]
end
mutual
theorem frozen_frz : ∀ d : D, d.frz.frozen = true
  | .tup o xs => by rw [D.frz, D.frozen, frozenL_frzL xs]; rfl
  | .lst o xs => by rw [D.frz, D.frozen, frozenL_frzL xs]; rfl
  | .dct o ks xs => by rw [D.frz, D.frozen, frozenL_frzL xs]; rfl
  | .non => rfl
  | .bl _ => rfl
  | .int _ => rfl
  | .str _ => rfl
  | .scr _ => rfl
theorem frozenL_frzL : ∀ xs : List D, frozenL (frzL xs) = true
  | [] => rfl
  | x :: xs => by rw [frzL, frozenL, frozen_frz x, frozenL_frzL xs]; rfl
end

/-! ### what stands for data -/
def Fle (F H : Hp) : Prop := ∀ a o, F a = some o → H a = some o
theorem Fle.refl (F : Hp) : Fle F F := fun _ _ h => h
theorem Fle.trans {F G H : Hp} (a : Fle F G) (b : Fle G H) : Fle F H := fun x o h => b x o (a x o h)
theorem Fle.seqL {K : PySem.W.Frag} {F H : Hp} {a : Addr} {xs : List V} (e : Fle F H) (h : SqL K F a xs) : SqL K H a xs := Same.seq e h
theorem Fle.seqT {K : PySem.W.Frag} {F H : Hp} {a : Addr} {xs : List V} (e : Fle F H) (h : SqT K F a xs) : SqT K H a xs := by
  rcases h with (h | ⟨o, h⟩) | h
  · exact .inl (.inl (e _ _ h))
  · exact .inl (.inr ⟨o, e _ _ h⟩)
  · exact .inr h

mutual
/-- v stands for d: frozen parts in F, owned ones in H at the addresses of the list -/
inductive Rp (U : Wd) (F H : Hp) : V → D → List Addr → Prop where
  | non : Rp U F H .non .non []
  | bl (b : Bool) : Rp U F H (.bl b) (.bl b) []
  | int (i : Int) : Rp U F H (.int i) (.int i) []
  | str (s : Str) : Rp U F H (.str s) (.str s) []
  | scr {a : Addr} {ns : List Int} : SqL U.K F a (ns.map V.int) → Rp U F H (.ref a) (.scr ns) []
  | tupS {a : Addr} {vs : List V} {ds : List D} : SqT U.K F a vs → RpL U F H vs ds [] → Rp U F H (.ref a) (.tup false ds) []
  | tupO {a : Addr} {vs : List V} {ds : List D} {as : List Addr} : H a = some (.tup vs) → RpL U F H vs ds as → Rp U F H (.ref a) (.tup true ds) (a :: as)
  | lstS {a : Addr} {vs : List V} {ds : List D} : F a = some (.lst vs) → RpL U F H vs ds [] → Rp U F H (.ref a) (.lst false ds) []
  | lstO {a : Addr} {vs : List V} {ds : List D} {as : List Addr} : H a = some (.lst vs) → RpL U F H vs ds as → Rp U F H (.ref a) (.lst true ds) (a :: as)
  | dctS {a : Addr} {kvs : List (Key × V)} {ds : List D} : F a = some (.dK kvs) → RpL U F H (kvs.map (·.2)) ds [] → Rp U F H (.ref a) (.dct false (kvs.map (·.1)) ds) []
  | dctO {a : Addr} {kvs : List (Key × V)} {ds : List D} {as : List Addr} : H a = some (.dK kvs) → RpL U F H (kvs.map (·.2)) ds as → Rp U F H (.ref a) (.dct true (kvs.map (·.1)) ds) (a :: as)
inductive RpL (U : Wd) (F H : Hp) : List V → List D → List Addr → Prop where
  | nil : RpL U F H [] [] []
  | cons {v : V} {d : D} {vs : List V} {ds : List D} {as bs : List Addr} : Rp U F H v d as → RpL U F H vs ds bs → RpL U F H (v :: vs) (d :: ds) (as ++ bs)
end
section
variable {U : Wd} {F F' H H' : Hp}
mutual
theorem Rp.mono (hF : Fle F F') : ∀ {v : V} {d : D} {as : List Addr}, Rp U F H v d as → (∀ a ∈ as, H' a = H a) → Rp U F' H' v d as
  | _, _, _, .non, _ => .non
  | _, _, _, .bl b, _ => .bl b
  | _, _, _, .int i, _ => .int i
  | _, _, _, .str s, _ => .str s
  | _, _, _, .scr h, _ => .scr (hF.seqL h)
  | _, _, _, .tupS h l, _ => .tupS (hF.seqT h) (RpL.mono hF l fun _ z => nomatch z)
  | _, _, _, .tupO h l, k => .tupO ((k _ (.head _)).trans h) (RpL.mono hF l fun a z => k a (.tail _ z))
  | _, _, _, .lstS h l, _ => .lstS (hF _ _ h) (RpL.mono hF l fun _ z => nomatch z)
  | _, _, _, .lstO h l, k => .lstO ((k _ (.head _)).trans h) (RpL.mono hF l fun a z => k a (.tail _ z))
  | _, _, _, .dctS h l, _ => .dctS (hF _ _ h) (RpL.mono hF l fun _ z => nomatch z)
  | _, _, _, .dctO h l, k => .dctO ((k _ (.head _)).trans h) (RpL.mono hF l fun a z => k a (.tail _ z))
theorem RpL.mono (hF : Fle F F') : ∀ {vs : List V} {ds : List D} {as : List Addr}, RpL U F H vs ds as → (∀ a ∈ as, H' a = H a) → RpL U F' H' vs ds as
  | _, _, _, .nil, _ => .nil
  | _, _, _, .cons h t, k => .cons (Rp.mono hF h fun a z => k a (List.mem_append_left _ z)) (RpL.mono hF t fun a z => k a (List.mem_append_right _ z))
end
theorem Rp.mono0 (hF : Fle F F') {v : V} {d : D} (h : Rp U F H v d []) : Rp U F' H' v d [] := h.mono hF fun _ z => nomatch z
theorem RpL.mono0 (hF : Fle F F') {vs : List V} {ds : List D} (h : RpL U F H vs ds []) : RpL U F' H' vs ds [] := h.mono hF fun _ z => nomatch z
theorem RpL.len : ∀ {vs : List V} {ds : List D} {as : List Addr}, RpL U F H vs ds as → vs.length = ds.length
  | _, _, _, .nil => rfl
  | _, _, _, .cons _ t => by rw [List.length_cons, List.length_cons, t.len]
mutual
/-- owned addresses are tracked -/
theorem Rp.there : ∀ {v : V} {d : D} {as : List Addr}, Rp U F H v d as → ∀ a ∈ as, H a ≠ none
  | _, _, _, .tupO h l, a, z => by
    rcases List.mem_cons.mp z with rfl | z
    · rw [h]; exact fun q => nomatch q
    · exact RpL.there l a z
  | _, _, _, .lstO h l, a, z => by
    rcases List.mem_cons.mp z with rfl | z
    · rw [h]; exact fun q => nomatch q
    · exact RpL.there l a z
  | _, _, _, .dctO h l, a, z => by
    rcases List.mem_cons.mp z with rfl | z
    · rw [h]; exact fun q => nomatch q
    · exact RpL.there l a z
  | _, _, _, .non, _, z => nomatch z
  | _, _, _, .bl _, _, z => nomatch z
  | _, _, _, .int _, _, z => nomatch z
  | _, _, _, .str _, _, z => nomatch z
  | _, _, _, .scr _, _, z => nomatch z
  | _, _, _, .tupS _ _, _, z => nomatch z
  | _, _, _, .lstS _ _, _, z => nomatch z
  | _, _, _, .dctS _ _, _, z => nomatch z
theorem RpL.there : ∀ {vs : List V} {ds : List D} {as : List Addr}, RpL U F H vs ds as → ∀ a ∈ as, H a ≠ none
  | _, _, _, .nil, _, z => nomatch z
  | _, _, _, .cons h t, a, z => by
    rcases List.mem_append.mp z with z | z
    · exact Rp.there h a z
    · exact RpL.there t a z
end
mutual
theorem Rp.frozen : ∀ {v : V} {d : D} {as : List Addr}, Rp U F H v d as → (d.frozen = true ↔ as = [])
  | _, _, _, .non => by simp [D.frozen]
  | _, _, _, .bl _ => by simp [D.frozen]
  | _, _, _, .int _ => by simp [D.frozen]
  | _, _, _, .str _ => by simp [D.frozen]
  | _, _, _, .scr _ => by simp [D.frozen]
  | _, _, _, .tupS _ l => by simp [D.frozen, (RpL.frozen l).mpr rfl]
  | _, _, _, .tupO _ l => by simp [D.frozen]
  | _, _, _, .lstS _ l => by simp [D.frozen, (RpL.frozen l).mpr rfl]
  | _, _, _, .lstO _ l => by simp [D.frozen]
  | _, _, _, .dctS _ l => by simp [D.frozen, (RpL.frozen l).mpr rfl]
  | _, _, _, .dctO _ l => by simp [D.frozen]
theorem RpL.frozen : ∀ {vs : List V} {ds : List D} {as : List Addr}, RpL U F H vs ds as → (frozenL ds = true ↔ as = [])
  | _, _, _, .nil => by simp [frozenL]
  | _, _, _, .cons h t => by rw [frozenL, Bool.and_eq_true, Rp.frozen h, RpL.frozen t, List.append_eq_nil_iff]
end
theorem Rp.nil_of {v : V} {d : D} {as : List Addr} (h : Rp U F H v d as) (hf : d.frozen = true) : as = [] := h.frozen.mp hf
mutual
/-- what is owned, frozen: F' has it too -/
theorem Rp.freeze (hF : Fle F F') : ∀ {v : V} {d : D} {as : List Addr}, Rp U F H v d as → (∀ a ∈ as, F' a = H a) → Rp U F' H' v d.frz []
  | _, _, _, .non, _ => .non
  | _, _, _, .bl b, _ => .bl b
  | _, _, _, .int i, _ => .int i
  | _, _, _, .str s, _ => .str s
  | _, _, _, .scr h, _ => .scr (hF.seqL h)
  | _, _, _, .tupS h l, _ => .tupS (hF.seqT h) (RpL.freeze hF l fun _ z => nomatch z)
  | _, _, _, .tupO h l, k => .tupS (.inl (.inl ((k _ (.head _)).trans h))) (RpL.freeze hF l fun a z => k a (.tail _ z))
  | _, _, _, .lstS h l, _ => .lstS (hF _ _ h) (RpL.freeze hF l fun _ z => nomatch z)
  | _, _, _, .lstO h l, k => .lstS ((k _ (.head _)).trans h) (RpL.freeze hF l fun a z => k a (.tail _ z))
  | _, _, _, .dctS h l, _ => .dctS (hF _ _ h) (RpL.freeze hF l fun _ z => nomatch z)
  | _, _, _, .dctO h l, k => .dctS ((k _ (.head _)).trans h) (RpL.freeze hF l fun a z => k a (.tail _ z))
theorem RpL.freeze (hF : Fle F F') : ∀ {vs : List V} {ds : List D} {as : List Addr}, RpL U F H vs ds as → (∀ a ∈ as, F' a = H a) → RpL U F' H' vs (frzL ds) []
  | _, _, _, .nil, _ => .nil
  | _, _, _, .cons h t, k => .cons (as := []) (bs := []) (Rp.freeze hF h fun a z => k a (List.mem_append_left _ z)) (RpL.freeze hF t fun a z => k a (List.mem_append_right _ z))
end

/-! ### frozen rows by place -/
theorem RpL.cons0 {v : V} {d : D} {vs : List V} {ds : List D} (h : Rp U F H v d []) (t : RpL U F H vs ds []) : RpL U F H (v :: vs) (d :: ds) [] := .cons (as := []) (bs := []) h t
theorem RpL.uncons0 {v : V} {d : D} {vs : List V} {ds : List D} (h : RpL U F H (v :: vs) (d :: ds) []) : Rp U F H v d [] ∧ RpL U F H vs ds [] := by
  generalize e : ([] : List Addr) = z at h
  cases h with
  | @cons v d vs ds as bs h t =>
    obtain ⟨e1, e2⟩ := List.append_eq_nil_iff.mp e.symm
    subst e1 e2
    exact ⟨h, t⟩
theorem RpL.at0 : ∀ {vs : List V} {ds : List D}, RpL U F H vs ds [] ↔ vs.length = ds.length ∧ ∀ (i : Nat) (v : V) (d : D), vs[i]? = some v → ds[i]? = some d → Rp U F H v d []
  | [], [] => ⟨fun _ => ⟨rfl, fun i v d h => by simp at h⟩, fun _ => .nil⟩
  | [], d :: ds => ⟨fun h => absurd h.len (by simp), fun h => absurd h.1 (by simp)⟩
  | v :: vs, [] => ⟨fun h => absurd h.len (by simp), fun h => absurd h.1 (by simp)⟩
  | v :: vs, d :: ds => by
    refine ⟨fun h => ?_, fun h => ?_⟩
    · obtain ⟨h1, h2⟩ := h.uncons0
      obtain ⟨l, q⟩ := RpL.at0.mp h2
      refine ⟨by rw [List.length_cons, List.length_cons, l], fun i v' d' a b => ?_⟩
      cases i with
      | zero =>
        simp only [List.getElem?_cons_zero, Option.some.injEq] at a b
        subst a b
        exact h1
      | succ i =>
        simp only [List.getElem?_cons_succ] at a b
        exact q i v' d' a b
    · obtain ⟨l, q⟩ := h
      exact .cons0 (q 0 v d rfl rfl) (RpL.at0.mpr ⟨by simpa using l, fun i v' d' a b => q (i + 1) v' d' (by simpa using a) (by simpa using b)⟩)
theorem RpL.get0 {vs : List V} {ds : List D} (h : RpL U F H vs ds []) {i : Nat} {d : D} (e : ds[i]? = some d) : ∃ v, vs[i]? = some v ∧ Rp U F H v d [] := by
  obtain ⟨l, q⟩ := RpL.at0.mp h
  have hi : i < vs.length := by
    rw [l]
    exact (List.getElem?_eq_some_iff.mp e).1
  exact ⟨vs[i], List.getElem?_eq_getElem hi, q i _ _ (List.getElem?_eq_getElem hi) e⟩
theorem RpL.app : ∀ {vs : List V} {ds : List D} {as : List Addr} {ws : List V} {es : List D} {bs : List Addr}, RpL U F H vs ds as → RpL U F H ws es bs → RpL U F H (vs ++ ws) (ds ++ es) (as ++ bs)
  | _, _, _, _, _, _, .nil, h => h
  | _, _, _, _, _, _, .cons h t, k => by
    rw [List.append_assoc]
    exact .cons h (RpL.app t k)
theorem RpL.app0 {vs : List V} {ds : List D} {ws : List V} {es : List D} (h : RpL U F H vs ds []) (k : RpL U F H ws es []) : RpL U F H (vs ++ ws) (ds ++ es) [] := h.app k
theorem RpL.one {v : V} {d : D} {as : List Addr} (h : Rp U F H v d as) : RpL U F H [v] [d] as := by
  have q := RpL.cons h (.nil (U := U) (F := F) (H := H))
  rw [List.append_nil] at q
  exact q
theorem RpL.take0 {vs : List V} {ds : List D} (n : Nat) (h : RpL U F H vs ds []) : RpL U F H (vs.take n) (ds.take n) [] := by
  obtain ⟨l, q⟩ := RpL.at0.mp h
  refine RpL.at0.mpr ⟨by rw [List.length_take, List.length_take, l], fun i v d a b => ?_⟩
  rw [List.getElem?_take] at a b
  split at a
  · rename_i hi
    rw [if_pos hi] at b
    exact q i v d a b
  · cases a
theorem RpL.drop0 {vs : List V} {ds : List D} (n : Nat) (h : RpL U F H vs ds []) : RpL U F H (vs.drop n) (ds.drop n) [] := by
  obtain ⟨l, q⟩ := RpL.at0.mp h
  refine RpL.at0.mpr ⟨by rw [List.length_drop, List.length_drop, l], fun i v d a b => ?_⟩
  rw [List.getElem?_drop] at a b
  exact q _ v d a b
theorem RpL.rev0 {vs : List V} {ds : List D} (h : RpL U F H vs ds []) : RpL U F H vs.reverse ds.reverse [] := by
  obtain ⟨l, q⟩ := RpL.at0.mp h
  refine RpL.at0.mpr ⟨by rw [List.length_reverse, List.length_reverse, l], fun i v d a b => ?_⟩
  have hi : i < vs.length := by
    have := (List.getElem?_eq_some_iff.mp a).1
    simpa using this
  rw [List.getElem?_reverse hi] at a
  rw [List.getElem?_reverse (by omega)] at b
  rw [l] at a
  exact q _ v d a b
theorem RpL.set0 {vs : List V} {ds : List D} {v : V} {d : D} (i : Nat) (h : RpL U F H vs ds []) (hv : Rp U F H v d []) : RpL U F H (vs.set i v) (ds.set i d) [] := by
  obtain ⟨l, q⟩ := RpL.at0.mp h
  refine RpL.at0.mpr ⟨by rw [List.length_set, List.length_set, l], fun j v' d' a b => ?_⟩
  by_cases e : i = j
  · subst e
    rw [List.getElem?_set] at a b
    rw [if_pos rfl] at a b
    split at a
    · split at b
      · cases a
        cases b
        exact hv
      · cases b
    · cases a
  · rw [List.getElem?_set_ne e] at a b
    exact q j v' d' a b
theorem RpL.ints : ∀ (ns : List Int), RpL U F H (ns.map V.int) (ns.map D.int) []
  | [] => .nil
  | n :: ns => .cons0 (.int n) (RpL.ints ns)
end

/-! ### environments -/
abbrev En := List (Option D)
abbrev Sl := List (Option V)
inductive RpE (U : Wd) (F H : Hp) : Sl → En → List Addr → Prop where
  | nil : RpE U F H [] [] []
  | nn {s : Option V} {σ : Sl} {E : En} {as : List Addr} : RpE U F H σ E as → RpE U F H (s :: σ) (none :: E) as
  | sm {v : V} {d : D} {σ : Sl} {E : En} {as bs : List Addr} : Rp U F H v d as → RpE U F H σ E bs → RpE U F H (some v :: σ) (some d :: E) (as ++ bs)
def REnv (U : Wd) (F H : Hp) (σ : Sl) (E : En) (as : List Addr) : Prop := ∃ as0, RpE U F H σ E as0 ∧ as0.Perm as
section
variable {U : Wd} {F F' H H' : Hp} {σ : Sl} {E : En} {as bs : List Addr} {i : Nat} {v : V} {d : D}
theorem RpE.mono (hF : Fle F F') : ∀ {σ : Sl} {E : En} {as : List Addr}, RpE U F H σ E as → (∀ a ∈ as, H' a = H a) → RpE U F' H' σ E as
  | _, _, _, .nil, _ => .nil
  | _, _, _, .nn t, k => .nn (RpE.mono hF t k)
  | _, _, _, .sm h t, k => .sm (h.mono hF fun a z => k a (List.mem_append_left _ z)) (RpE.mono hF t fun a z => k a (List.mem_append_right _ z))
theorem RpE.len : ∀ {σ : Sl} {E : En} {as : List Addr}, RpE U F H σ E as → σ.length = E.length
  | _, _, _, .nil => rfl
  | _, _, _, .nn t => by rw [List.length_cons, List.length_cons, t.len]
  | _, _, _, .sm _ t => by rw [List.length_cons, List.length_cons, t.len]
theorem RpE.take : ∀ {σ : Sl} {E : En} {as : List Addr} {i : Nat} {d : D}, RpE U F H σ E as → E[i]? = some (some d) → ∃ v a1 rest, σ[i]? = some (some v) ∧ Rp U F H v d a1 ∧ as.Perm (a1 ++ rest) ∧ RpE U F H σ (E.set i none) rest
  | _, _, _, _, _, .nil, e => by simp at e
  | _, _, _, 0, d, .nn t, e => by simp at e
  | _, _, _, 0, d, .sm (as := as) (bs := bs) h t, e => by
    simp only [List.getElem?_cons_zero, Option.some.injEq] at e
    subst e
    exact ⟨_, as, bs, rfl, h, List.Perm.refl _, .nn t⟩
  | _, _, _, i + 1, d, .nn t, e => by
    obtain ⟨v, a1, rest, h1, h2, h3, h4⟩ := RpE.take (i := i) (d := d) t (by simpa using e)
    exact ⟨v, a1, rest, by simpa using h1, h2, h3, .nn h4⟩
  | _, _, _, i + 1, d, .sm (as := as) (bs := bs) h t, e => by
    obtain ⟨v, a1, rest, h1, h2, h3, h4⟩ := RpE.take (i := i) (d := d) t (by simpa using e)
    refine ⟨v, a1, as ++ rest, by simpa using h1, h2, ?_, .sm h h4⟩
    refine (h3.append_left as).trans ?_
    rw [← List.append_assoc, ← List.append_assoc]
    exact List.perm_append_comm.append_right rest
theorem RpE.put : ∀ {σ : Sl} {E : En} {as : List Addr} {i : Nat}, RpE U F H σ E as → E[i]? = some none → ∀ {v : V} {d : D} {a1 : List Addr}, Rp U F H v d a1 → ∃ as0, RpE U F H (σ.set i (some v)) (E.set i (some d)) as0 ∧ as0.Perm (a1 ++ as)
  | _, _, _, _, .nil, e, _, _, _, _ => by simp at e
  | _, _, _, 0, .nn t, e, _, _, _, h => ⟨_, .sm h t, List.Perm.refl _⟩
  | _, _, _, 0, .sm _ t, e, _, _, _, h => by simp at e
  | _, _, _, i + 1, .nn t, e, _, _, _, h => by
    obtain ⟨as0, h1, h2⟩ := RpE.put (i := i) t (by simpa using e) h
    exact ⟨as0, .nn h1, h2⟩
  | _, _, _, i + 1, .sm (as := as) (bs := bs) q t, e, _, _, a1, h => by
    obtain ⟨as0, h1, h2⟩ := RpE.put (i := i) t (by simpa using e) h
    refine ⟨as ++ as0, .sm q h1, ?_⟩
    refine (h2.append_left as).trans ?_
    rw [← List.append_assoc, ← List.append_assoc]
    exact List.perm_append_comm.append_right bs
theorem RpE.anyσ : ∀ {σ : Sl} {E : En} {as : List Addr} {i : Nat}, RpE U F H σ E as → (E[i]? = some none ∨ E[i]? = none) → ∀ s : Option V, RpE U F H (σ.set i s) E as
  | _, _, _, _, .nil, _, _ => .nil
  | _, _, _, 0, .nn t, _, _ => .nn t
  | _, _, _, 0, .sm _ t, e, _ => by simp at e
  | _, _, _, i + 1, .nn t, e, s => .nn (RpE.anyσ (i := i) t (by simpa using e) s)
  | _, _, _, i + 1, .sm q t, e, s => .sm q (RpE.anyσ (i := i) t (by simpa using e) s)
theorem RpE.there : ∀ {σ : Sl} {E : En} {as : List Addr}, RpE U F H σ E as → ∀ a ∈ as, H a ≠ none
  | _, _, _, .nil, _, z => nomatch z
  | _, _, _, .nn t, a, z => RpE.there t a z
  | _, _, _, .sm h t, a, z => by
    rcases List.mem_append.mp z with z | z
    · exact Rp.there h a z
    · exact RpE.there t a z
theorem REnv.mono (hF : Fle F F') (h : REnv U F H σ E as) (k : ∀ a ∈ as, H' a = H a) : REnv U F' H' σ E as := by
  obtain ⟨as0, h, p⟩ := h
  exact ⟨as0, h.mono hF fun a z => k a (p.mem_iff.mp z), p⟩
theorem REnv.len (h : REnv U F H σ E as) : σ.length = E.length := by
  obtain ⟨as0, h, p⟩ := h
  exact h.len
theorem REnv.perm (h : REnv U F H σ E as) (p : as.Perm bs) : REnv U F H σ E bs := by
  obtain ⟨as0, h, q⟩ := h
  exact ⟨as0, h, q.trans p⟩
theorem REnv.there (h : REnv U F H σ E as) : ∀ a ∈ as, H a ≠ none := by
  obtain ⟨as0, h, p⟩ := h
  exact fun a z => h.there a (p.mem_iff.mpr z)
theorem REnv.take (h : REnv U F H σ E as) (e : E[i]? = some (some d)) : ∃ v a1 rest, σ[i]? = some (some v) ∧ Rp U F H v d a1 ∧ as.Perm (a1 ++ rest) ∧ REnv U F H σ (E.set i none) rest := by
  obtain ⟨as0, h, p⟩ := h
  obtain ⟨v, a1, rest, h1, h2, h3, h4⟩ := h.take e
  exact ⟨v, a1, rest, h1, h2, p.symm.trans h3, rest, h4, List.Perm.refl _⟩
theorem REnv.put {a1 : List Addr} (h : REnv U F H σ E as) (e : E[i]? = some none) (q : Rp U F H v d a1) : REnv U F H (σ.set i (some v)) (E.set i (some d)) (a1 ++ as) := by
  obtain ⟨as0, h, p⟩ := h
  obtain ⟨as1, h1, h2⟩ := h.put e q
  exact ⟨as1, h1, h2.trans (p.append_left a1)⟩
theorem set_self {σ : Sl} {i : Nat} {s : Option V} (h : σ[i]? = some s) : σ.set i s = σ := by
  apply List.ext_getElem?
  intro j
  by_cases e : i = j
  · subst e
    obtain ⟨hl, _⟩ := List.getElem?_eq_some_iff.mp h
    rw [List.getElem?_set_self hl, h]
  · rw [List.getElem?_set_ne e]
/-- put where the slot already holds the value -/
theorem REnv.putS {a1 : List Addr} (h : REnv U F H σ E as) (e : E[i]? = some none) (s : σ[i]? = some (some v)) (q : Rp U F H v d a1) : REnv U F H σ (E.set i (some d)) (a1 ++ as) := by
  have := h.put e q
  rw [set_self s] at this
  exact this
theorem REnv.anyσ (h : REnv U F H σ E as) (e : E[i]? = some none ∨ E[i]? = none) (s : Option V) : REnv U F H (σ.set i s) E as := by
  obtain ⟨as0, h, p⟩ := h
  exact ⟨as0, h.anyσ e s, p⟩
/-- forget a slot -/
theorem REnv.drop (h : REnv U F H σ E as) (i : Nat) : ∃ a1 rest, as.Perm (a1 ++ rest) ∧ REnv U F H σ (E.set i none) rest := by
  match e : E[i]? with
  | none =>
    have : E.set i none = E := by
      rw [List.set_eq_of_length_le]
      exact List.getElem?_eq_none_iff.mp e
    exact ⟨[], as, List.Perm.refl _, by rw [this]; exact h⟩
  | some none =>
    have : E.set i none = E := by
      apply List.ext_getElem?
      intro j
      by_cases q : i = j
      · subst q
        obtain ⟨hl, _⟩ := List.getElem?_eq_some_iff.mp e
        rw [List.getElem?_set_self hl, e]
      · rw [List.getElem?_set_ne q]
    exact ⟨[], as, List.Perm.refl _, by rw [this]; exact h⟩
  | some (some d) =>
    obtain ⟨v, a1, rest, _, _, p, q⟩ := h.take e
    exact ⟨a1, rest, p, q⟩
theorem set_none_get {E : En} {i : Nat} (h : i < E.length) : (E.set i none)[i]? = some none := by rw [List.getElem?_set_self h]
/-- a store: the old value forgotten -/
theorem REnv.store {a1 : List Addr} (h : REnv U F H σ E as) (hi : i < E.length) (q : Rp U F H v d a1) : ∃ a0 rest, as.Perm (a0 ++ rest) ∧ REnv U F H (σ.set i (some v)) (E.set i (some d)) (a1 ++ rest) := by
  obtain ⟨a0, rest, p, r⟩ := h.drop i
  refine ⟨a0, rest, p, ?_⟩
  have := r.put (set_none_get hi) q
  rw [List.set_set] at this
  exact this
end

/-! ### steps of the heap -/
structure Good (F H : Hp) (as : List Addr) : Prop where
  le : Fle F H
  nd : as.Nodup
  off : ∀ a ∈ as, F a = none
  on : ∀ a ∈ as, H a ≠ none
/-- from (F, H), owning as, to (F', H'), owning cs -/
structure Step (F H : Hp) (as : List Addr) (F' H' : Hp) (cs : List Addr) : Prop where
  good : Good F' H' cs
  ext : Fle F F'
  same : ∀ b o, H b = some o → b ∉ as → H' b = some o
  keep : ∀ b, H b ≠ none → H' b ≠ none
  newF : ∀ b, F' b ≠ none → F b ≠ none ∨ b ∈ as ∨ H b = none
  newO : ∀ b ∈ cs, b ∈ as ∨ H b = none
section
variable {F F1 F2 F' H H1 H2 H' : Hp} {as as1 bs cs ds : List Addr}
theorem Good.sub (g : Good F H as) (h : ∀ b ∈ bs, b ∈ as) (nd : bs.Nodup) : Good F H bs := ⟨g.le, nd, fun a z => g.off a (h a z), fun a z => g.on a (h a z)⟩
theorem Good.perm (g : Good F H as) (p : as.Perm bs) : Good F H bs := g.sub (fun b z => p.mem_iff.mpr z) (p.nodup_iff.mp g.nd)
theorem Step.refl (g : Good F H as) : Step F H as F H as := ⟨g, Fle.refl F, fun _ _ h _ => h, fun _ h => h, fun _ h => .inl h, fun _ h => .inl h⟩
theorem Step.sub (s : Step F H as F' H' cs) (h : ∀ b ∈ ds, b ∈ cs) (nd : ds.Nodup) : Step F H as F' H' ds := ⟨s.good.sub h nd, s.ext, s.same, s.keep, s.newF, fun b z => s.newO b (h b z)⟩
theorem Step.perm (s : Step F H as F' H' cs) (p : cs.Perm ds) : Step F H as F' H' ds := s.sub (fun b z => p.mem_iff.mpr z) (p.nodup_iff.mp s.good.nd)
theorem Step.right (s : Step F H as F' H' (bs ++ cs)) : Step F H as F' H' cs := s.sub (fun b z => List.mem_append_right _ z) (List.nodup_append.mp s.good.nd).2.1
theorem Step.left (s : Step F H as F' H' (bs ++ cs)) : Step F H as F' H' bs := s.sub (fun b z => List.mem_append_left _ z) (List.nodup_append.mp s.good.nd).1
/-- from a start with more -/
theorem Step.start (s : Step F H as F' H' cs) (h : ∀ b ∈ as, b ∈ bs) (hb : ∀ b ∈ bs, H b ≠ none) : Step F H bs F' H' cs :=
  ⟨s.good, s.ext, fun b o e z => s.same b o e fun q => z (h b q), s.keep, fun b z => (s.newF b z).imp_right fun q => q.imp_left (h b), fun b z => (s.newO b z).imp_left (h b)⟩
theorem Step.permS (s : Step F H as F' H' cs) (p : as.Perm bs) : Step F H bs F' H' cs :=
  ⟨s.good, s.ext, fun b o e z => s.same b o e fun q => z (p.mem_iff.mp q), s.keep, fun b z => (s.newF b z).imp_right fun q => q.imp_left p.mem_iff.mp, fun b z => (s.newO b z).imp_left p.mem_iff.mp⟩
/-- one step behind another, bs waiting meanwhile -/
theorem Step.seq (s : Step F H as F1 H1 (bs ++ as1)) (t : Step F1 H1 as1 F2 H2 cs) : Step F H as F2 H2 (bs ++ cs) := by
  have nd := List.nodup_append.mp s.good.nd
  have off1 : ∀ b ∈ bs, b ∉ as1 := fun b z q => nd.2.2 b z b q rfl
  refine ⟨⟨t.good.le, ?_, fun a z => ?_, fun a z => ?_⟩, s.ext.trans t.ext, fun b o e z => ?_, fun b z => t.keep b (s.keep b z), fun b z => ?_, fun b z => ?_⟩
  · refine List.nodup_append.mpr ⟨nd.1, t.good.nd, fun a z b q e => ?_⟩
    subst e
    rcases t.newO a q with r | r
    · exact off1 a z r
    · exact s.good.on a (List.mem_append_left _ z) r
  · rcases List.mem_append.mp z with z | z
    · refine Classical.byContradiction fun q => ?_
      rcases t.newF a q with r | r | r
      · exact r (s.good.off a (List.mem_append_left _ z))
      · exact off1 a z r
      · exact s.good.on a (List.mem_append_left _ z) r
    · exact t.good.off a z
  · rcases List.mem_append.mp z with z | z
    · exact t.keep a (s.good.on a (List.mem_append_left _ z))
    · exact t.good.on a z
  · refine t.same b o (s.same b o e z) fun q => ?_
    rcases s.newO b (List.mem_append_right _ q) with r | r
    · exact z r
    · rw [e] at r
      cases r
  · rcases t.newF b z with r | r | r
    · exact s.newF b r
    · exact .inr (s.newO b (List.mem_append_right _ r))
    · refine .inr (.inr (Classical.byContradiction fun q => s.keep b q r))
  · rcases List.mem_append.mp z with z | z
    · exact s.newO b (List.mem_append_left _ z)
    · rcases t.newO b z with r | r
      · exact s.newO b (List.mem_append_right _ r)
      · refine .inr (Classical.byContradiction fun q => s.keep b q r)
theorem Step.trans (s : Step F H as F1 H1 as1) (t : Step F1 H1 as1 F2 H2 cs) : Step F H as F2 H2 cs := Step.seq (bs := []) s t
/-- a step that owns nothing at its start, with what waits -/
theorem Step.frame (t : Step F H [] F' H' cs) (g : Good F H bs) : Step F H bs F' H' (bs ++ cs) :=
  Step.seq (bs := bs) (as1 := []) ⟨by rw [List.append_nil]; exact g, Fle.refl F, fun _ _ h _ => h, fun _ h => h, fun _ h => .inl h, fun _ h => .inl (by simpa using h)⟩ t
/-- owned addresses that wait are as they were -/
theorem Step.kept (s : Step F H as F' H' cs) {b : Addr} (hb : H b ≠ none) (hn : b ∉ as) : H' b = H b := by
  cases e : H b with
  | none => exact absurd e hb
  | some o => exact s.same b o e hn
theorem Step.wait (s : Step F H as F1 H1 (bs ++ as1)) (t : Step F1 H1 as1 F2 H2 cs) : ∀ b ∈ bs, H2 b = H1 b := fun b z =>
  t.kept (s.good.on b (List.mem_append_left _ z)) fun q => (List.nodup_append.mp s.good.nd).2.2 b z b q rfl
/-- what is tracked by an owner is frozen -/
theorem Step.freeze (g : Good F H (as ++ bs)) : Step F H (as ++ bs) (fun b => if b ∈ as then H b else F b) H bs := by
  have nd := List.nodup_append.mp g.nd
  refine ⟨⟨fun a o e => ?_, nd.2.1, fun a z => ?_, fun a z => g.on a (List.mem_append_right _ z)⟩, fun a o e => ?_, fun _ _ h _ => h, fun _ h => h, fun b z => ?_, fun b z => .inl (List.mem_append_right _ z)⟩
  · by_cases h : a ∈ as
    · simpa [h] using e
    · exact g.le a o (by simpa [h] using e)
  · have : a ∉ as := fun q => nd.2.2 a q a z rfl
    simp only [this, if_false]
    exact g.off a (List.mem_append_right _ z)
  · by_cases h : a ∈ as
    · rw [g.off a (List.mem_append_left _ h)] at e
      cases e
    · simp only [h, if_false]
      exact e
  · by_cases h : b ∈ as
    · exact .inr (.inl (List.mem_append_left _ h))
    · simp only [h, if_false] at z
      exact .inl z
/-- a new owned object -/
theorem Step.alloc {p : Addr} {o : HO} (g : Good F H []) (hp : H p = none) : Step F H [] F (upd H p o) [p] := by
  refine ⟨⟨fun a u e => ?_, by simp, fun a z => ?_, fun a z => ?_⟩, Fle.refl F, fun b u e _ => ?_, fun b z => ?_, fun b z => .inl z, fun b z => ?_⟩
  · rw [upd_ne (ne_of_none (g.le a u e) hp)]
    exact g.le a u e
  · rw [List.mem_singleton] at z
    subst z
    cases e : F a with
    | none => rfl
    | some o' =>
      rw [g.le a o' e] at hp
      cases hp
  · rw [List.mem_singleton] at z
    subst z
    rw [upd_same]
    exact fun q => nomatch q
  · rw [upd_ne (ne_of_none e hp)]
    exact e
  · by_cases e : b = p
    · subst e
      exact absurd hp z
    · rw [upd_ne e]
      exact z
  · rw [List.mem_singleton] at z
    subst z
    exact .inr hp
/-- a new frozen object -/
theorem Step.allocF {p : Addr} {o : HO} (g : Good F H []) (hp : H p = none) : Step F H [] (upd F p o) (upd H p o) [] := by
  refine ⟨⟨fun a u e => ?_, List.nodup_nil, fun a z => (nomatch z), fun a z => (nomatch z)⟩, fun a u e => ?_, fun b u e _ => ?_, fun b z => ?_, fun b z => ?_, fun b z => (nomatch z)⟩
  · by_cases q : a = p
    · subst q
      rw [upd_same] at e ⊢
      exact e
    · rw [upd_ne q] at e ⊢
      exact g.le a u e
  · have q : a ≠ p := ne_of_none (g.le a u e) hp
    rw [upd_ne q]
    exact e
  · rw [upd_ne (ne_of_none e hp)]
    exact e
  · by_cases e : b = p
    · subst e
      exact absurd hp z
    · rw [upd_ne e]
      exact z
  · by_cases e : b = p
    · subst e
      exact .inr (.inr hp)
    · rw [upd_ne e] at z
      exact .inl z
/-- an owned object is written -/
theorem Step.write {p : Addr} {o : HO} (g : Good F H (p :: as)) : Step F H (p :: as) F (upd H p o) (p :: as) := by
  refine ⟨⟨fun a u e => ?_, g.nd, g.off, fun a z => ?_⟩, Fle.refl F, fun b u e z => ?_, fun b z => ?_, fun b z => .inl z, fun b z => .inl z⟩
  · have : a ≠ p := fun q => by
      subst q
      rw [g.off a (.head _)] at e
      cases e
    rw [upd_ne this]
    exact g.le a u e
  · by_cases e : a = p
    · subst e
      rw [upd_same]
      exact fun q => nomatch q
    · rw [upd_ne e]
      exact g.on a z
  · rw [upd_ne fun q => z (by rw [q]; exact List.mem_cons_self)]
    exact e
  · by_cases e : b = p
    · subst e
      rw [upd_same]
      exact fun q => nomatch q
    · rw [upd_ne e]
      exact z
end
end MP

/-! Mirror layer, part 2: readings by mirrors; names, constants, operators, displays, tests. -/
namespace MP
open PySem PySem.Spec L2

abbrev Ex := En → Option (D × En)
abbrev Tx := En → Option (Bool × En)
abbrev Lx := En → Option (List D × En)
inductive Hd where
  | slot (i : Nat)
  | val (d : D)
abbrev Ox := En → Option (Hd × En)
abbrev Hx := En → Option (List Hd × En)
def dr (E : En) : Hd → Option D
  | .slot i => match E[i]? with
    | some (some d) => some d
    | _ => none
  | .val d => some d
def drL (E : En) : List Hd → Option (List D)
  | [] => some []
  | h :: hs => match dr E h with
    | some d => match drL E hs with
      | some ds => some (d :: ds)
      | none => none
    | none => none

/-- what stands for a handle -/
def RpH (U : Wd) (F H : Hp) (σ : Sl) (v : V) : Hd → List Addr → Prop
  | .slot i, bs => bs = [] ∧ σ[i]? = some (some v)
  | .val d, bs => Rp U F H v d bs
inductive RpHL (U : Wd) (F H : Hp) (σ : Sl) : List V → List Hd → List Addr → Prop where
  | nil : RpHL U F H σ [] [] []
  | cons {v : V} {h : Hd} {vs : List V} {hs : List Hd} {as bs : List Addr} : RpH U F H σ v h as → RpHL U F H σ vs hs bs → RpHL U F H σ (v :: vs) (h :: hs) (as ++ bs)
section
variable {U : Wd} {F F' H H' : Hp} {σ : Sl} {E : En} {as bs : List Addr} {v : V} {h : Hd} {d : D}
theorem RpH.mono (hF : Fle F F') (q : RpH U F H σ v h as) (k : ∀ a ∈ as, H' a = H a) : RpH U F' H' σ v h as := by
  cases h with
  | slot i => exact q
  | val d => exact Rp.mono hF q k
theorem RpHL.mono (hF : Fle F F') : ∀ {vs : List V} {hs : List Hd} {as : List Addr}, RpHL U F H σ vs hs as → (∀ a ∈ as, H' a = H a) → RpHL U F' H' σ vs hs as
  | _, _, _, .nil, _ => .nil
  | _, _, _, .cons q t, k => .cons (q.mono hF fun a z => k a (List.mem_append_left _ z)) (RpHL.mono hF t fun a z => k a (List.mem_append_right _ z))
theorem dr_slot {i : Nat} (h : dr E (.slot i) = some d) : E[i]? = some (some d) := by
  simp only [dr] at h
  split at h
  · rename_i d' e
    rw [e]
    exact congrArg some h
  · cases h
/-- a handle as it stands now -/
theorem RpH.now (q : RpH U F H σ v h bs) (r : REnv U F H σ E as) (e : dr E h = some d) : ∃ cs, Rp U F H v d cs := by
  cases h with
  | slot i =>
    obtain ⟨v', a1, rest, h1, h2, _, _⟩ := r.take (dr_slot e)
    rw [q.2] at h1
    cases h1
    exact ⟨a1, h2⟩
  | val d' =>
    cases e
    exact ⟨bs, q⟩
abbrev RpP (U : Wd) (F H : Hp) : List V → List D → Prop := Paired fun v d => ∃ cs, Rp U F H v d cs
theorem RpHL.now (r : REnv U F H σ E as) : ∀ {vs : List V} {hs : List Hd} {bs : List Addr} {ds : List D}, RpHL U F H σ vs hs bs → drL E hs = some ds → RpP U F H vs ds
  | _, _, _, _, .nil, e => by
    cases e
    exact .nil
  | _, h :: hs, _, ds, .cons q t, e => by
    unfold drL at e
    cases e1 : dr E h with
    | none => rw [e1] at e; cases e
    | some d =>
      cases e2 : drL E hs with
      | none => rw [e1, e2] at e; cases e
      | some ds' =>
        rw [e1, e2] at e
        cases e
        exact .cons (q.now r e1) (RpHL.now r t e2)
end

/-! ### readings -/
def tM (U : Wd) (m : Ex) : TE := fun σ H Q => ∃ (E : En) (F : Hp) (as : List Addr) (d : D) (E' : En), Good F H as ∧ REnv U F H σ E as ∧ m E = some (d, E') ∧
  ∀ v F' H' bs as', Step F H as F' H' (bs ++ as') → REnv U F' H' σ E' as' → Rp U F' H' v d bs → Q v H'
def tO (U : Wd) (m : Ox) : TE := fun σ H Q => ∃ (E : En) (F : Hp) (as : List Addr) (d : Hd) (E' : En), Good F H as ∧ REnv U F H σ E as ∧ m E = some (d, E') ∧
  ∀ v F' H' bs as', Step F H as F' H' (bs ++ as') → REnv U F' H' σ E' as' → RpH U F' H' σ v d bs → Q v H'
def tT (U : Wd) (m : Tx) : TT := fun σ H Q => ∃ (E : En) (F : Hp) (as : List Addr) (b : Bool) (E' : En), Good F H as ∧ REnv U F H σ E as ∧ m E = some (b, E') ∧
  ∀ F' H' as', Step F H as F' H' as' → REnv U F' H' σ E' as' → Q b H'
def tL (U : Wd) (m : Lx) : TA := fun σ H Q => ∃ (E : En) (F : Hp) (as : List Addr) (ds : List D) (E' : En), Good F H as ∧ REnv U F H σ E as ∧ m E = some (ds, E') ∧
  ∀ vs F' H' bs as', Step F H as F' H' (bs ++ as') → REnv U F' H' σ E' as' → RpL U F' H' vs ds bs → Q vs H'
def tH (U : Wd) (m : Hx) : TA := fun σ H Q => ∃ (E : En) (F : Hp) (as : List Addr) (hs : List Hd) (E' : En), Good F H as ∧ REnv U F H σ E as ∧ m E = some (hs, E') ∧
  ∀ vs F' H' bs as', Step F H as F' H' (bs ++ as') → REnv U F' H' σ E' as' → RpHL U F' H' σ vs hs bs → Q vs H'
abbrev ux (X : Cx) : Wd := ⟨X.prog, X.w, X.K⟩

section
variable {X : Cx} {e : Expr}
theorem pe_mono {t t' : TE} (h : PE X e t) (k : ∀ σ H Q, t' σ H Q → t σ H Q) : PE X e t' := ⟨fun pins s σ H Q I q => h.run pins s σ H Q I (k σ H Q q)⟩
theorem pt_mono {t t' : TT} (h : PT X e t) (k : ∀ σ H Q, t' σ H Q → t σ H Q) : PT X e t' := ⟨fun pins s σ H Q I q => h.run pins s σ H Q I (k σ H Q q)⟩
theorem pw_mono {t t' : TT} (h : PW X e t) (k : ∀ σ H Q, t' σ H Q → t σ H Q) : PW X e t' := ⟨fun wh pins s σ H Q I q => h.run wh pins s σ H Q I (k σ H Q q)⟩
theorem pa_mono {es : List Expr} {t t' : TA} (h : PA X es t) (k : ∀ σ H Q, t' σ H Q → t σ H Q) : PA X es t' := ⟨fun pos pins s σ H Q I q => h.run pos pins s σ H Q I (k σ H Q q)⟩
theorem pk_mono {es : List Keyword} {t t' : TA} (h : PK X es t) (k : ∀ σ H Q, t' σ H Q → t σ H Q) : PK X es t' := ⟨fun pos pins s σ H Q I q => h.run pos pins s σ H Q I (k σ H Q q)⟩
theorem ps_mono {st : Stmt} {t t' : TS} (h : PS X st t) (k : ∀ D σ H, t' D σ H → t D σ H) : PS X st t' := ⟨fun pins s σ H D I q => h.run pins s σ H D I (k D σ H q)⟩
theorem pss_mono {st : List Stmt} {t t' : TS} (h : PSs X st t) (k : ∀ D σ H, t' D σ H → t D σ H) : PSs X st t' := ⟨fun pins s σ H D I q => h.run pins s σ H D I (k D σ H q)⟩
end

/-! ### bookkeeping -/
section
variable {U : Wd} {F F1 F2 F' H H1 H2 H' : Hp} {σ : Sl} {E E1 E2 : En} {as as1 as2 bs b1 b2 cs : List Addr}
/-- an operation that owns nothing at its start, behind a step -/
theorem fin (s : Step F H as F2 H2 as2) (r : REnv U F2 H2 σ E2 as2) (t : Step F2 H2 [] F' H' bs) : Step F H as F' H' (bs ++ as2) ∧ REnv U F' H' σ E2 as2 := by
  have t2 : Step F2 H2 as2 F' H' (bs ++ as2) := (t.frame s.good).perm List.perm_append_comm
  exact ⟨s.trans t2, r.mono t.ext fun a z => t.kept (s.good.on a z) (fun q => nomatch q)⟩
theorem Step.start0 (s : Step F H as F' H' (bs ++ as2)) : Good F' H' [] := s.good.sub (fun _ z => nomatch z) List.nodup_nil
theorem Good.zero (g : Good F H as) : Good F H [] := g.sub (fun _ z => nomatch z) List.nodup_nil
end

/-! ### constants and names -/
def xC (d : D) : Ex := fun E => some (d, E)
def oV (m : Ex) : Ox := fun E => match m E with
  | some (d, E') => some (.val d, E')
  | none => none
def oN (i : Nat) : Ox := fun E => match E[i]? with
  | some (some _) => some (.slot i, E)
  | _ => none
def xShare (i : Nat) : Ex := fun E => match E[i]? with
  | some (some d) => some (d.frz, E.set i (some d.frz))
  | _ => none
def xTake (i : Nat) : Ex := fun E => match E[i]? with
  | some (some d) => some (d, E.set i none)
  | _ => none
section
variable {X : Cx} {e : Expr} {pos : Pos}
theorem mv_const {v : V} {d : D} (h : PE X e (tC v)) (hv : ∀ F H, Rp (ux X) F H v d []) : PE X e (tM (ux X) (xC d)) := pe_mono h fun σ H Q q => by
  obtain ⟨E, F, as, d', E', g, r, e, q⟩ := q
  cases e
  exact q v F H [] as (Step.refl g) r (hv F H)
theorem mv_int {i j} : PE X (.Constant (.int i) j pos) (tM (ux X) (xC (.int i))) := mv_const pe_int fun _ _ => .int i
theorem mv_bl {b j} : PE X (.Constant (.bool b) j pos) (tM (ux X) (xC (.bl b))) := mv_const pe_bl fun _ _ => .bl b
theorem mv_non {j} : PE X (.Constant .none j pos) (tM (ux X) (xC .non)) := mv_const pe_non fun _ _ => .non
theorem mv_str {s j} : PE X (.Constant (.str s) j pos) (tM (ux X) (xC (.str s))) := mv_const pe_str fun _ _ => .str s
theorem mv_glob {x : Str} {v : V} {u : Value} {d : D} (hv : ∀ F H, Rp (ux X) F H v d []) (hg : Gl X x) (hm : X.mg x = some u) (r : RelV v u) (hd : (x == ("__debug__" : Str)) = false := by decide) : PE X (.Name x pos) (tM (ux X) (xC d)) := mv_const (pe_glob hg hm r hd) hv
theorem ov {m : Ex} (h : PE X e (tM (ux X) m)) : PE X e (tO (ux X) (oV m)) := pe_mono h fun σ H Q q => by
  obtain ⟨E, F, as, hd, E', g, r, e, q⟩ := q
  unfold oV at e
  cases e1 : m E with
  | none => rw [e1] at e; cases e
  | some p =>
    obtain ⟨d, E1⟩ := p
    rw [e1] at e
    cases e
    exact ⟨E, F, as, d, E', g, r, e1, q⟩
theorem on_ {i : Nat} {x : Str} (h : PE X (.Name x pos) (tVar i)) : PE X (.Name x pos) (tO (ux X) (oN i)) := pe_mono h fun σ H Q q => by
  obtain ⟨E, F, as, hd, E', g, r, e, q⟩ := q
  unfold oN at e
  split at e
  · rename_i d ed
    cases e
    obtain ⟨v, a1, rest, h1, _, _, _⟩ := r.take ed
    exact ⟨v, h1, q v F H [] as (Step.refl g) r ⟨rfl, h1⟩⟩
  · cases e
theorem mv_share {i : Nat} {x : Str} (h : PE X (.Name x pos) (tVar i)) : PE X (.Name x pos) (tM (ux X) (xShare i)) := pe_mono h fun σ H Q q => by
  obtain ⟨E, F, as, hd, E', g, r, e, q⟩ := q
  unfold xShare at e
  split at e
  · rename_i d ed
    cases e
    obtain ⟨v, a1, rest, h1, h2, p, r2⟩ := r.take ed
    have g2 := g.perm p
    have st := Step.freeze g2
    refine ⟨v, h1, q v _ H [] rest (st.permS p.symm) ?_ (Rp.freeze st.ext h2 fun a z => by simp [z])⟩
    have hi : i < E.length := (List.getElem?_eq_some_iff.mp ed).1
    have r3 : REnv (ux X) (fun b => if b ∈ a1 then H b else F b) H σ (E.set i none) rest := r2.mono st.ext fun _ _ => rfl
    have r4 := r3.putS (d := d.frz) (v := v) (a1 := []) (set_none_get hi) h1 (Rp.freeze st.ext h2 fun a z => by simp [z])
    rw [List.set_set] at r4
    exact r4
  · cases e
theorem mv_take {i : Nat} {x : Str} (h : PE X (.Name x pos) (tVar i)) : PE X (.Name x pos) (tM (ux X) (xTake i)) := pe_mono h fun σ H Q q => by
  obtain ⟨E, F, as, hd, E', g, r, e, q⟩ := q
  unfold xTake at e
  split at e
  · rename_i d ed
    cases e
    obtain ⟨v, a1, rest, h1, h2, p, r2⟩ := r.take ed
    exact ⟨v, h1, q v F H a1 rest ((Step.refl g).perm p) r2 h2⟩
  · cases e
end

/-! ### operators -/
def op2 (f : D → D → Option D) (a b : Ox) : Ex := fun E => match a E with
  | some (h1, E1) => match b E1 with
    | some (h2, E2) => match dr E2 h1, dr E2 h2 with
      | some d1, some d2 => match f d1 d2 with
        | some d => some (d, E2)
        | none => none
      | _, _ => none
    | none => none
  | none => none
def op1 (f : D → Option D) (a : Ox) : Ex := fun E => match a E with
  | some (h1, E1) => match dr E1 h1 with
    | some d1 => match f d1 with
      | some d => some (d, E1)
      | none => none
    | none => none
  | none => none
theorem op2_inv {f : D → D → Option D} {a b : Ox} {E E' : En} {d : D} (h : op2 f a b E = some (d, E')) : ∃ h1 E1 h2 d1 d2, a E = some (h1, E1) ∧ b E1 = some (h2, E') ∧ dr E' h1 = some d1 ∧ dr E' h2 = some d2 ∧ f d1 d2 = some d := by
  unfold op2 at h
  split at h
  · rename_i h1 E1 e1
    split at h
    · rename_i h2 E2 e2
      split at h
      · rename_i d1 d2 e3 e4
        split at h
        · rename_i d' e5
          cases h
          exact ⟨h1, E1, h2, d1, d2, e1, e2, e3, e4, e5⟩
        · cases h
      · cases h
    · cases h
  · cases h
theorem op1_inv {f : D → Option D} {a : Ox} {E E' : En} {d : D} (h : op1 f a E = some (d, E')) : ∃ h1 d1, a E = some (h1, E') ∧ dr E' h1 = some d1 ∧ f d1 = some d := by
  unfold op1 at h
  split at h
  · rename_i h1 E1 e1
    split at h
    · rename_i d1 e3
      split at h
      · rename_i d' e5
        cases h
        exact ⟨h1, d1, e1, e3, e5⟩
      · cases h
    · cases h
  · cases h
/-- a two-place rule keeps to a mirror -/
def Ok2 (U : Wd) (r : R2) (f : D → D → Option D) : Prop := ∀ (F H : Hp) (x y : V) (d1 d2 d : D) (c1 c2 : List Addr) (Q : VK), Good F H [] → Rp U F H x d1 c1 → Rp U F H y d2 c2 → f d1 d2 = some d →
  (∀ v F' H' bs, Step F H [] F' H' bs → Rp U F' H' v d bs → Q v H') → r x y H Q
def Ok1 (U : Wd) (r : V → Hp → VK → Prop) (f : D → Option D) : Prop := ∀ (F H : Hp) (x : V) (d1 d : D) (c1 : List Addr) (Q : VK), Good F H [] → Rp U F H x d1 c1 → f d1 = some d →
  (∀ v F' H' bs, Step F H [] F' H' bs → Rp U F' H' v d bs → Q v H') → r x H Q
/-- a result without a new object -/
theorem same_ {F H : Hp} {U : Wd} {v : V} {d : D} {Q : VK} (g : Good F H []) (k : ∀ v F' H' bs, Step F H [] F' H' bs → Rp U F' H' v d bs → Q v H') (h : Rp U F H v d []) : Q v H := k v F H [] (Step.refl g) h
theorem seq2 {U : Wd} {a b : Ox} {σ : Sl} {H : Hp} {R : V → V → Hp → Prop} {E E1 E2 : En} {F : Hp} {as : List Addr} {h1 h2 : Hd} (g : Good F H as) (r : REnv U F H σ E as) (e1 : a E = some (h1, E1)) (e2 : b E1 = some (h2, E2))
    (k : ∀ x y F2 H2 c1 c2 as2, Step F H as F2 H2 (c1 ++ (c2 ++ as2)) → REnv U F2 H2 σ E2 as2 → RpH U F2 H2 σ x h1 c1 → RpH U F2 H2 σ y h2 c2 → R x y H2) : tO U a σ H fun x H1 => tO U b σ H1 fun y H2 => R x y H2 := by
  refine ⟨E, F, as, h1, E1, g, r, e1, fun x F1 H1 c1 as1 s1 r1 q1 => ?_⟩
  refine ⟨E1, F1, as1, h2, E2, s1.right.good, r1, e2, fun y F2 H2 c2 as2 s2 r2 q2 => ?_⟩
  exact k x y F2 H2 c1 c2 as2 (s1.seq s2) r2 (q1.mono s2.ext (Step.wait s1 s2)) q2
theorem op2_reads {U : Wd} {r : R2} {f : D → D → Option D} {a b : Ox} (ok : Ok2 U r f) {σ : Sl} {H : Hp} {Q : VK} (q : tM U (op2 f a b) σ H Q) : tOp r (tO U a) (tO U b) σ H Q := by
  obtain ⟨E, F, as, d, E', g, rE, e, q⟩ := q
  obtain ⟨h1, E1, h2, d1, d2, e1, e2, e3, e4, e5⟩ := op2_inv e
  refine seq2 (R := fun x y H2 => r x y H2 Q) g rE e1 e2 fun x y F2 H2 c1 c2 as2 s r2 q1 q2 => ?_
  obtain ⟨z1, w1⟩ := q1.now r2 e3
  obtain ⟨z2, w2⟩ := q2.now r2 e4
  refine ok F2 H2 x y d1 d2 d z1 z2 Q s.good.zero w1 w2 e5 fun v F' H' bs t w => ?_
  obtain ⟨s3, r3⟩ := fin s.right.right r2 t
  exact q v F' H' bs as2 s3 r3 w
theorem op1_reads {U : Wd} {r : V → Hp → VK → Prop} {f : D → Option D} {a : Ox} (ok : Ok1 U r f) {σ : Sl} {H : Hp} {Q : VK} (q : tM U (op1 f a) σ H Q) : tUn r (tO U a) σ H Q := by
  obtain ⟨E, F, as, d, E', g, rE, e, q⟩ := q
  obtain ⟨h1, d1, e1, e3, e5⟩ := op1_inv e
  refine ⟨E, F, as, h1, E', g, rE, e1, fun x F1 H1 c1 as1 s1 r1 q1 => ?_⟩
  obtain ⟨z1, w1⟩ := q1.now r1 e3
  refine ok F1 H1 x d1 d z1 Q s1.good.zero w1 e5 fun v F' H' bs t w => ?_
  obtain ⟨s3, r3⟩ := fin s1.right r1 t
  exact q v F' H' bs as1 s3 r3 w
section
variable {X : Cx} {a b : Expr} {ma mb : Ox} {r : R2} {f : D → D → Option D} {pos : Pos}
theorem mv_op {op : Operator} (ho : OpR X (binaryOp op) r) (ok : Ok2 (ux X) r f) (ha : PE X a (tO (ux X) ma)) (hb : PE X b (tO (ux X) mb)) : PE X (.BinOp a op b pos) (tM (ux X) (op2 f ma mb)) := pe_mono (pe_op ho ha hb) fun _ _ _ q => op2_reads ok q
theorem mv_cmp {op : CmpOp} (ho : OpR X (compareOp op) r) (ok : Ok2 (ux X) r f) (ha : PE X a (tO (ux X) ma)) (hb : PE X b (tO (ux X) mb)) (hm : behindInMarks op b = false) : PE X (.Compare a [op] [b] pos) (tM (ux X) (op2 f ma mb)) := pe_mono (pe_cmpR ho ha hb hm) fun _ _ _ q => op2_reads ok q
theorem mv_ix (hr : IxR X r) (ok : Ok2 (ux X) r f) (ha : PE X a (tO (ux X) ma)) (hb : PE X b (tO (ux X) mb)) (hs : PlainIx b) : PE X (.Subscript a b pos) (tM (ux X) (op2 f ma mb)) := pe_mono (pe_ix hr ha hb hs) fun _ _ _ q => op2_reads ok q
theorem mv_un {op : UnaryOp} {r : V → Hp → VK → Prop} {f : D → Option D} (ho : UnR X (unaryOp op) r) (ok : Ok1 (ux X) r f) (ha : PE X a (tO (ux X) ma)) : PE X (.UnaryOp op a pos) (tM (ux X) (op1 f ma)) := pe_mono (pe_un ho ha) fun _ _ _ q => op1_reads ok q
end

/-! ### tests -/
def toB (m : Ex) : Tx := fun E => match m E with
  | some (.bl b, E') => some (b, E')
  | _ => none
def andT (a b : Tx) : Tx := fun E => match a E with
  | some (true, E1) => b E1
  | some (false, E1) => some (false, E1)
  | none => none
def orT (a b : Tx) : Tx := fun E => match a E with
  | some (true, E1) => some (true, E1)
  | some (false, E1) => b E1
  | none => none
def notT (a : Tx) : Tx := fun E => match a E with
  | some (b, E1) => some (!b, E1)
  | none => none
def andX (a b : Ex) : Ex := fun E => match a E with
  | some (.bl true, E1) => b E1
  | some (.bl false, E1) => some (.bl false, E1)
  | _ => none
def orX (a b : Ex) : Ex := fun E => match a E with
  | some (.bl true, E1) => some (.bl true, E1)
  | some (.bl false, E1) => b E1
  | _ => none
def notX (a : Ex) : Ex := fun E => match a E with
  | some (.bl b, E1) => some (.bl (!b), E1)
  | _ => none
def ifX (t : Tx) (a b : Ex) : Ex := fun E => match t E with
  | some (true, E1) => a E1
  | some (false, E1) => b E1
  | none => none
theorem toB_inv {m : Ex} {E E' : En} {b : Bool} (h : toB m E = some (b, E')) : m E = some (.bl b, E') := by
  unfold toB at h
  split at h
  · rename_i b' E1 e
    cases h
    exact e
  · cases h
theorem rp_bl {U : Wd} {F H : Hp} {v : V} {b : Bool} {bs : List Addr} (h : Rp U F H v (.bl b) bs) : v = .bl b ∧ bs = [] := by
  cases h
  exact ⟨rfl, rfl⟩
theorem rp_int {U : Wd} {F H : Hp} {v : V} {b : Int} {bs : List Addr} (h : Rp U F H v (.int b) bs) : v = .int b ∧ bs = [] := by
  cases h
  exact ⟨rfl, rfl⟩
theorem rp_str {U : Wd} {F H : Hp} {v : V} {b : Str} {bs : List Addr} (h : Rp U F H v (.str b) bs) : v = .str b ∧ bs = [] := by
  cases h
  exact ⟨rfl, rfl⟩
section
variable {X : Cx} {a b : Expr} {rest : List Expr} {pos : Pos} {U : Wd} {σ : Sl} {H : Hp}
theorem toB_reads {m : Ex} {Q : Bool → Hp → Prop} (q : tT U (toB m) σ H Q) : tM U m σ H fun x H' => ∃ k, x = .bl k ∧ Q k H' := by
  obtain ⟨E, F, as, d, E', g, rE, e, q⟩ := q
  refine ⟨E, F, as, .bl d, E', g, rE, toB_inv e, fun v F' H' bs as' s r w => ?_⟩
  obtain ⟨rfl, rfl⟩ := rp_bl w
  exact ⟨d, rfl, q F' H' as' s r⟩
theorem mt_val {e : Expr} {m : Ex} (h : PE X e (tM (ux X) m)) (he : ∀ whole, isTrue e X.env whole = (do let v ← whole; standAt e.pos; holding [v] (truthy v)) := by intro _; rfl) : PT X e (tT (ux X) (toB m)) := pt_mono (pt_val h he) fun _ _ _ q => toB_reads q
theorem mt_cmp {ma mb : Ox} {r : R2} {f : D → D → Option D} {op : CmpOp} (ho : OpR X (compareOp op) r) (ok : Ok2 (ux X) r f) (ha : PE X a (tO (ux X) ma)) (hb : PE X b (tO (ux X) mb)) (hm : behindInMarks op b = false) : PT X (.Compare a [op] [b] pos) (tT (ux X) (toB (op2 f ma mb))) := pt_mono (pt_cmpR ho ha hb hm) fun _ _ _ q => op2_reads ok (toB_reads q)
theorem andT_inv {a b : Tx} {E E' : En} {c : Bool} (h : andT a b E = some (c, E')) : ∃ k E1, a E = some (k, E1) ∧ if k = true then b E1 = some (c, E') else (c = false ∧ E' = E1) := by
  unfold andT at h
  split at h
  · rename_i E1 e
    exact ⟨true, E1, e, by simpa using h⟩
  · rename_i E1 e
    cases h
    exact ⟨false, E', e, by simp⟩
  · cases h
theorem orT_inv {a b : Tx} {E E' : En} {c : Bool} (h : orT a b E = some (c, E')) : ∃ k E1, a E = some (k, E1) ∧ if k = true then (c = true ∧ E' = E1) else b E1 = some (c, E') := by
  unfold orT at h
  split at h
  · rename_i E1 e
    cases h
    exact ⟨true, E', e, by simp⟩
  · rename_i E1 e
    exact ⟨false, E1, e, by simpa using h⟩
  · cases h
theorem andT_reads {a b : Tx} {Q : Bool → Hp → Prop} (q : tT U (andT a b) σ H Q) : tAnd (tT U a) (tT U b) σ H Q := by
  obtain ⟨E, F, as, d, E', g, rE, e, q⟩ := q
  obtain ⟨k, E1, e1, e2⟩ := andT_inv e
  refine ⟨E, F, as, k, E1, g, rE, e1, fun F1 H1 as1 s1 r1 => ?_⟩
  cases k with
  | true =>
    rw [if_pos rfl] at e2 ⊢
    exact ⟨E1, F1, as1, d, E', s1.good, r1, e2, fun F' H' as' s r => q F' H' as' (s1.trans s) r⟩
  | false =>
    rw [if_neg Bool.false_ne_true] at e2 ⊢
    obtain ⟨rfl, rfl⟩ := e2
    exact q F1 H1 as1 s1 r1
theorem orT_reads {a b : Tx} {Q : Bool → Hp → Prop} (q : tT U (orT a b) σ H Q) : tOr (tT U a) (tT U b) σ H Q := by
  obtain ⟨E, F, as, d, E', g, rE, e, q⟩ := q
  obtain ⟨k, E1, e1, e2⟩ := orT_inv e
  refine ⟨E, F, as, k, E1, g, rE, e1, fun F1 H1 as1 s1 r1 => ?_⟩
  cases k with
  | true =>
    rw [if_pos rfl] at e2 ⊢
    obtain ⟨rfl, rfl⟩ := e2
    exact q F1 H1 as1 s1 r1
  | false =>
    rw [if_neg Bool.false_ne_true] at e2 ⊢
    exact ⟨E1, F1, as1, d, E', s1.good, r1, e2, fun F' H' as' s r => q F' H' as' (s1.trans s) r⟩
theorem mw_and1 {ta : Tx} (ha : PT X a (tT (ux X) ta)) : PW X (.BoolOp .And [a] pos) (tT (ux X) ta) := pw_and1 ha
theorem mw_or1 {ta : Tx} (ha : PT X a (tT (ux X) ta)) : PW X (.BoolOp .Or [a] pos) (tT (ux X) ta) := pw_or1 ha
theorem mw_and {ta tb : Tx} (ha : PT X a (tT (ux X) ta)) (hb : PW X (.BoolOp .And (b :: rest) pos) (tT (ux X) tb)) : PW X (.BoolOp .And (a :: b :: rest) pos) (tT (ux X) (andT ta tb)) := pw_mono (pw_and ha hb) fun _ _ _ q => andT_reads q
theorem mw_or {ta tb : Tx} (ha : PT X a (tT (ux X) ta)) (hb : PW X (.BoolOp .Or (b :: rest) pos) (tT (ux X) tb)) : PW X (.BoolOp .Or (a :: b :: rest) pos) (tT (ux X) (orT ta tb)) := pw_mono (pw_or ha hb) fun _ _ _ q => orT_reads q
theorem mt_not {ta : Tx} (ha : PT X a (tT (ux X) ta)) : PT X (.UnaryOp .Not a pos) (tT (ux X) (notT ta)) := pt_mono (pt_not ha) fun σ H Q q => by
  obtain ⟨E, F, as, d, E', g, rE, e, q⟩ := q
  unfold notT at e
  split at e
  · rename_i b' E1 e1
    cases e
    exact ⟨E, F, as, b', E', g, rE, e1, q⟩
  · cases e
/-! as values -/
theorem mv_one {op} {m : Ex} (h : PE X a (tM (ux X) m)) : PE X (.BoolOp op [a] pos) (tM (ux X) m) := pe_one h
theorem mv_and {ma mb : Ex} (ha : PE X a (tM (ux X) ma)) (hb : PE X (.BoolOp .And (b :: rest) pos) (tM (ux X) mb)) : PE X (.BoolOp .And (a :: b :: rest) pos) (tM (ux X) (andX ma mb)) := pe_mono (pe_and ha hb) fun σ H Q q => by
  obtain ⟨E, F, as, d, E', g, rE, e, q⟩ := q
  unfold andX at e
  split at e
  · rename_i E1 e1
    refine ⟨E, F, as, .bl true, E1, g, rE, e1, fun v F1 H1 bs as1 s1 r1 w => ?_⟩
    obtain ⟨rfl, rfl⟩ := rp_bl w
    exact ⟨true, rfl, by rw [if_pos rfl]; exact ⟨E1, F1, as1, d, E', s1.good, r1, e, fun v F' H' bs as' s r w => q v F' H' bs as' (s1.trans s) r w⟩⟩
  · rename_i E1 e1
    cases e
    refine ⟨E, F, as, .bl false, E', g, rE, e1, fun v F1 H1 bs as1 s1 r1 w => ?_⟩
    obtain ⟨rfl, rfl⟩ := rp_bl w
    exact ⟨false, rfl, by rw [if_neg Bool.false_ne_true]; exact q _ F1 H1 [] as1 s1 r1 (.bl false)⟩
  · cases e
theorem mv_or {ma mb : Ex} (ha : PE X a (tM (ux X) ma)) (hb : PE X (.BoolOp .Or (b :: rest) pos) (tM (ux X) mb)) : PE X (.BoolOp .Or (a :: b :: rest) pos) (tM (ux X) (orX ma mb)) := pe_mono (pe_or ha hb) fun σ H Q q => by
  obtain ⟨E, F, as, d, E', g, rE, e, q⟩ := q
  unfold orX at e
  split at e
  · rename_i E1 e1
    cases e
    refine ⟨E, F, as, .bl true, E', g, rE, e1, fun v F1 H1 bs as1 s1 r1 w => ?_⟩
    obtain ⟨rfl, rfl⟩ := rp_bl w
    exact ⟨true, rfl, by rw [if_pos rfl]; exact q _ F1 H1 [] as1 s1 r1 (.bl true)⟩
  · rename_i E1 e1
    refine ⟨E, F, as, .bl false, E1, g, rE, e1, fun v F1 H1 bs as1 s1 r1 w => ?_⟩
    obtain ⟨rfl, rfl⟩ := rp_bl w
    exact ⟨false, rfl, by rw [if_neg Bool.false_ne_true]; exact ⟨E1, F1, as1, d, E', s1.good, r1, e, fun v F' H' bs as' s r w => q v F' H' bs as' (s1.trans s) r w⟩⟩
  · cases e
theorem mv_not {ma : Ex} (ha : PE X a (tM (ux X) ma)) : PE X (.UnaryOp .Not a pos) (tM (ux X) (notX ma)) := pe_mono (pe_not ha) fun σ H Q q => by
  obtain ⟨E, F, as, d, E', g, rE, e, q⟩ := q
  unfold notX at e
  split at e
  · rename_i b E1 e1
    cases e
    refine ⟨E, F, as, .bl b, E', g, rE, e1, fun v F1 H1 bs as1 s1 r1 w => ?_⟩
    obtain ⟨rfl, rfl⟩ := rp_bl w
    exact ⟨b, rfl, q _ F1 H1 [] as1 s1 r1 (.bl (!b))⟩
  · cases e
theorem mv_if {c : Expr} {mc : Tx} {ma mb : Ex} (hc : PT X c (tT (ux X) mc)) (ha : PE X a (tM (ux X) ma)) (hb : PE X b (tM (ux X) mb)) : PE X (.IfExp c a b pos) (tM (ux X) (ifX mc ma mb)) := pe_mono (pe_ifExp hc ha hb) fun σ H Q q => by
  obtain ⟨E, F, as, d, E', g, rE, e, q⟩ := q
  unfold ifX at e
  split at e
  · rename_i E1 e1
    refine ⟨E, F, as, true, E1, g, rE, e1, fun F1 H1 as1 s1 r1 => ?_⟩
    show (if true = true then _ else _)
    rw [if_pos rfl]
    exact ⟨E1, F1, as1, d, E', s1.good, r1, e, fun v F' H' bs as' s r w => q v F' H' bs as' (s1.trans s) r w⟩
  · rename_i E1 e1
    refine ⟨E, F, as, false, E1, g, rE, e1, fun F1 H1 as1 s1 r1 => ?_⟩
    show (if false = true then _ else _)
    rw [if_neg Bool.false_ne_true]
    exact ⟨E1, F1, as1, d, E', s1.good, r1, e, fun v F' H' bs as' s r w => q v F' H' bs as' (s1.trans s) r w⟩
  · cases e
end

/-! ### rows of values, of handles -/
def xNil : Lx := fun E => some ([], E)
def xCons (m : Ex) (ms : Lx) : Lx := fun E => match m E with
  | some (d, E1) => match ms E1 with
    | some (ds, E2) => some (d :: ds, E2)
    | none => none
  | none => none
def hNil : Hx := fun E => some ([], E)
def hCons (m : Ox) (ms : Hx) : Hx := fun E => match m E with
  | some (d, E1) => match ms E1 with
    | some (ds, E2) => some (d :: ds, E2)
    | none => none
  | none => none
section
variable {X : Cx} {e : Expr} {es : List Expr} {pos : Pos} {U : Wd} {σ : Sl} {H : Hp}
theorem xNil_reads {Q : List V → Hp → Prop} (q : tL U xNil σ H Q) : tNil σ H Q := by
  obtain ⟨E, F, as, d, E', g, rE, e, q⟩ := q
  cases e
  exact q [] F H [] as (Step.refl g) rE .nil
theorem xCons_reads {m : Ex} {ms : Lx} {Q : List V → Hp → Prop} (q : tL U (xCons m ms) σ H Q) : tCons (tM U m) (tL U ms) σ H Q := by
  obtain ⟨E, F, as, d, E', g, rE, e, q⟩ := q
  unfold xCons at e
  split at e
  · rename_i d1 E1 e1
    split at e
    · rename_i ds E2 e2
      cases e
      refine ⟨E, F, as, d1, E1, g, rE, e1, fun v F1 H1 b1 as1 s1 r1 w1 => ?_⟩
      refine ⟨E1, F1, as1, ds, E', s1.right.good, r1, e2, fun vs F2 H2 b2 as2 s2 r2 w2 => ?_⟩
      exact q (v :: vs) F2 H2 (b1 ++ b2) as2 (by rw [List.append_assoc]; exact s1.seq s2) r2 (.cons (w1.mono s2.ext (Step.wait s1 s2)) w2)
    · cases e
  · cases e
theorem hNil_reads {Q : List V → Hp → Prop} (q : tH U hNil σ H Q) : tNil σ H Q := by
  obtain ⟨E, F, as, d, E', g, rE, e, q⟩ := q
  cases e
  exact q [] F H [] as (Step.refl g) rE .nil
theorem hCons_reads {m : Ox} {ms : Hx} {Q : List V → Hp → Prop} (q : tH U (hCons m ms) σ H Q) : tCons (tO U m) (tH U ms) σ H Q := by
  obtain ⟨E, F, as, d, E', g, rE, e, q⟩ := q
  unfold hCons at e
  split at e
  · rename_i d1 E1 e1
    split at e
    · rename_i ds E2 e2
      cases e
      refine ⟨E, F, as, d1, E1, g, rE, e1, fun v F1 H1 b1 as1 s1 r1 w1 => ?_⟩
      refine ⟨E1, F1, as1, ds, E', s1.right.good, r1, e2, fun vs F2 H2 b2 as2 s2 r2 w2 => ?_⟩
      exact q (v :: vs) F2 H2 (b1 ++ b2) as2 (by rw [List.append_assoc]; exact s1.seq s2) r2 (.cons (w1.mono s2.ext (Step.wait s1 s2)) w2)
    · cases e
  · cases e
theorem ma_nil : PA X [] (tL (ux X) xNil) := pa_mono pa_nil fun _ _ _ q => xNil_reads q
theorem ma_cons {m : Ex} {ms : Lx} (h : PE X e (tM (ux X) m)) (t : PA X es (tL (ux X) ms)) (hs : starEach (e :: es) X.env = (false, eval e X.env) :: starEach es X.env := by rfl) : PA X (e :: es) (tL (ux X) (xCons m ms)) := pa_mono (pa_cons h t hs) fun _ _ _ q => xCons_reads q
theorem mh_nil : PA X [] (tH (ux X) hNil) := pa_mono pa_nil fun _ _ _ q => hNil_reads q
theorem mh_cons {m : Ox} {ms : Hx} (h : PE X e (tO (ux X) m)) (t : PA X es (tH (ux X) ms)) (hs : starEach (e :: es) X.env = (false, eval e X.env) :: starEach es X.env := by rfl) : PA X (e :: es) (tH (ux X) (hCons m ms)) := pa_mono (pa_cons h t hs) fun _ _ _ q => hCons_reads q
theorem mk_nil : PK X [] (tH (ux X) hNil) := pk_mono pk_nil fun _ _ _ q => hNil_reads q
theorem mk_cons {m : Ox} {ms : Hx} {kws : List Keyword} {nm : Option Str} {kpos : Pos} (h : PE X e (tO (ux X) m)) (t : PK X kws (tH (ux X) ms)) : PK X (⟨nm, e, kpos⟩ :: kws) (tH (ux X) (hCons m ms)) := pk_mono (pk_cons h t) fun _ _ _ q => hCons_reads q

/-! ### displays -/
def lineOk (n : Nat) : Bool := decide (n ≤ sizeLine)
def dLst (m : Lx) : Ex := fun E => match m E with
  | some (ds, E1) => if lineOk ds.length = true then some (.lst true ds, E1) else none
  | none => none
def mkTup (ds : List D) : D := .tup (!frozenL ds) ds
def dTup (m : Lx) : Ex := fun E => match m E with
  | some (ds, E1) => if lineOk ds.length = true then some (mkTup ds, E1) else none
  | none => none
theorem mv_lst {m : Lx} (h : PA X es (tL (ux X) m)) : PE X (.List es pos) (tM (ux X) (dLst m)) := pe_mono (pe_lst h) fun σ H Q q => by
  obtain ⟨E, F, as, d, E', g, rE, e, q⟩ := q
  unfold dLst at e
  split at e
  · rename_i ds E1 e1
    split at e
    · rename_i hl
      cases e
      refine ⟨E, F, as, ds, E', g, rE, e1, fun vs F1 H1 bs as1 s1 r1 w => ⟨by rw [w.len]; exact of_decide_eq_true hl, fun p hp => ?_⟩⟩
      have t := Step.alloc (o := .lst vs) s1.good.zero hp
      have t2 : Step F1 H1 (bs ++ as1) F1 (upd H1 p (.lst vs)) ((p :: bs) ++ as1) := (t.frame s1.good).perm (by
        refine List.perm_append_comm.trans ?_
        exact List.Perm.refl _)
      have ne : ∀ a ∈ bs ++ as1, a ≠ p := fun a z => fun q => s1.good.on a z (q ▸ hp)
      refine q (.ref p) F1 _ (p :: bs) as1 (s1.trans t2) (r1.mono (Fle.refl _) fun a z => upd_ne (ne a (List.mem_append_right _ z))) ?_
      exact .lstO upd_same (w.mono (Fle.refl _) fun a z => upd_ne (ne a (List.mem_append_left _ z)))
    · cases e
  · cases e
theorem mv_tup {k} {m : Lx} (h : PA X es (tL (ux X) m)) : PE X (.Tuple es k pos) (tM (ux X) (dTup m)) := pe_mono (pe_tup h) fun σ H Q q => by
  obtain ⟨E, F, as, d, E', g, rE, e, q⟩ := q
  unfold dTup at e
  split at e
  · rename_i ds E1 e1
    split at e
    · rename_i hl
      cases e
      refine ⟨E, F, as, ds, E', g, rE, e1, fun vs F1 H1 bs as1 s1 r1 w => ⟨by rw [w.len]; exact of_decide_eq_true hl, fun p hp => ?_⟩⟩
      have ne : ∀ a ∈ bs ++ as1, a ≠ p := fun a z => fun q => s1.good.on a z (q ▸ hp)
      unfold mkTup at q
      cases hf : frozenL ds with
      | true =>
        rw [hf] at q
        have e0 : bs = [] := w.frozen.mp hf
        subst e0
        have t := Step.allocF (o := .tup vs) s1.good.zero hp
        obtain ⟨s3, r3⟩ := fin s1 r1 t
        exact q (.ref p) _ _ [] as1 s3 r3 (.tupS (.inl (.inl upd_same)) (w.mono0 t.ext))
      | false =>
        rw [hf] at q
        have t := Step.alloc (o := .tup vs) s1.good.zero hp
        have t2 : Step F1 H1 (bs ++ as1) F1 (upd H1 p (.tup vs)) ((p :: bs) ++ as1) := (t.frame s1.good).perm (by
          refine List.perm_append_comm.trans ?_
          exact List.Perm.refl _)
        refine q (.ref p) F1 _ (p :: bs) as1 (s1.trans t2) (r1.mono (Fle.refl _) fun a z => upd_ne (ne a (List.mem_append_right _ z))) ?_
        exact .tupO upd_same (w.mono (Fle.refl _) fun a z => upd_ne (ne a (List.mem_append_left _ z)))
    · cases e
  · cases e
end
end MP

/-! Mirror layer, part 3: statements, targets, loops, calls, comprehensions. -/
namespace MP
open PySem PySem.Spec L2

inductive Ctl where
  | nx
  | bk
  | ct
  | rt (d : D)
abbrev Sm := En → Option (Ctl × En)
abbrev Gm := D → En → Option En
abbrev Gs := List D → En → Option En
abbrev Pn := Nat → Bool
def SameAt (pin : Pn) (σ σ' : Sl) : Prop := σ'.length = σ.length ∧ ∀ i, pin i = true → σ'[i]? = σ[i]?
theorem SameAt.refl (pin : Pn) (σ : Sl) : SameAt pin σ σ := ⟨rfl, fun _ _ => rfl⟩
theorem SameAt.trans {pin : Pn} {σ σ1 σ2 : Sl} (a : SameAt pin σ σ1) (b : SameAt pin σ1 σ2) : SameAt pin σ σ2 := ⟨b.1.trans a.1, fun i h => (b.2 i h).trans (a.2 i h)⟩
theorem SameAt.set {pin : Pn} {σ : Sl} {i : Nat} {s : Option V} (h : pin i = false) : SameAt pin σ (σ.set i s) := ⟨List.length_set, fun j hj => by
  have : i ≠ j := fun e => by
    subst e
    rw [h] at hj
    cases hj
  rw [List.getElem?_set_ne this]⟩
theorem SameAt.weak {pin pin' : Pn} {σ σ' : Sl} (h : ∀ i, pin i = true → pin' i = true) (a : SameAt pin' σ σ') : SameAt pin σ σ' := ⟨a.1, fun i q => a.2 i (h i q)⟩

def OutOk (U : Wd) (pin : Pn) (D : Ends) (σ : Sl) (F H : Hp) (as : List Addr) (E' : En) : Ctl → Prop
  | .nx => ∀ σ' F' H' as', Step F H as F' H' as' → REnv U F' H' σ' E' as' → SameAt pin σ σ' → D.nx σ' H'
  | .bk => ∀ σ' F' H' as', Step F H as F' H' as' → REnv U F' H' σ' E' as' → SameAt pin σ σ' → D.bk σ' H'
  | .ct => ∀ σ' F' H' as', Step F H as F' H' as' → REnv U F' H' σ' E' as' → SameAt pin σ σ' → D.ct σ' H'
  | .rt d => ∀ v σ' F' H' bs as', Step F H as F' H' (bs ++ as') → REnv U F' H' σ' E' as' → SameAt pin σ σ' → Rp U F' H' v d bs → D.rt v H'
def tS (U : Wd) (pin : Pn) (m : Sm) : TS := fun D σ H => ∃ (E : En) (F : Hp) (as : List Addr) (c : Ctl) (E' : En), Good F H as ∧ REnv U F H σ E as ∧ m E = some (c, E') ∧ OutOk U pin D σ F H as E' c
theorem OutOk.step {U : Wd} {pin : Pn} {D : Ends} {σ σ1 : Sl} {F F1 H H1 : Hp} {as as1 : List Addr} {E' : En} {c : Ctl} (q : OutOk U pin D σ F H as E' c) (s : Step F H as F1 H1 as1) (p : SameAt pin σ σ1) : OutOk U pin D σ1 F1 H1 as1 E' c := by
  cases c with
  | nx => exact fun σ' F' H' as' t r w => q σ' F' H' as' (s.trans t) r (p.trans w)
  | bk => exact fun σ' F' H' as' t r w => q σ' F' H' as' (s.trans t) r (p.trans w)
  | ct => exact fun σ' F' H' as' t r w => q σ' F' H' as' (s.trans t) r (p.trans w)
  | rt d => exact fun v σ' F' H' bs as' t r w z => q v σ' F' H' bs as' (s.trans t) r (p.trans w) z

/-! ### small statements -/
def sSkip : Sm := fun E => some (.nx, E)
def sBreak : Sm := fun E => some (.bk, E)
def sCont : Sm := fun E => some (.ct, E)
def sNever : Sm := fun _ => none
def sSeq (a b : Sm) : Sm := fun E => match a E with
  | some (.nx, E1) => b E1
  | r => r
def sDrop (m : Ex) : Sm := fun E => match m E with
  | some (_, E1) => some (.nx, E1)
  | none => none
def sRet (m : Ex) : Sm := fun E => match m E with
  | some (d, E1) => some (.rt d, E1)
  | none => none
def sRetN : Sm := fun E => some (.rt .non, E)
def sIf (t : Tx) (a b : Sm) : Sm := fun E => match t E with
  | some (true, E1) => a E1
  | some (false, E1) => b E1
  | none => none
def sAsg (m : Ex) (g : Gm) : Sm := fun E => match m E with
  | some (d, E1) => match g d E1 with
    | some E2 => some (.nx, E2)
    | none => none
  | none => none
/-- a target's reading -/
def tG (U : Wd) (pin : Pn) (m : Gm) : TG := fun v σ H Q => ∃ (E : En) (F : Hp) (bs as : List Addr) (d : D) (E' : En), Good F H (bs ++ as) ∧ REnv U F H σ E as ∧ Rp U F H v d bs ∧ m d E = some E' ∧
  ∀ σ' F' H' as', Step F H (bs ++ as) F' H' as' → REnv U F' H' σ' E' as' → SameAt pin σ σ' → Q σ' H'
def tGs (U : Wd) (pin : Pn) (m : Gs) : TGs := fun vs σ H Q => ∃ (E : En) (F : Hp) (bs as : List Addr) (ds : List D) (E' : En), Good F H (bs ++ as) ∧ REnv U F H σ E as ∧ RpL U F H vs ds bs ∧ m ds E = some E' ∧
  ∀ σ' F' H' as', Step F H (bs ++ as) F' H' as' → REnv U F' H' σ' E' as' → SameAt pin σ σ' → Q σ' H'
def gSet (i : Nat) : Gm := fun d E => if i < E.length then some (E.set i (some d)) else none
def gNo : Gs := fun ds E => match ds with
  | [] => some E
  | _ => none
def gOne (g : Gm) (gs : Gs) : Gs := fun ds E => match ds with
  | d :: r => match g d E with
    | some E1 => gs r E1
    | none => none
  | [] => none
def gTup' (n : Nat) (gs : Gs) : Gm := fun d E => match d with
  | .tup _ ds => if ds.length = n then gs ds E else none
  | _ => none
section
variable {X : Cx} {st : Stmt} {rest : List Stmt} {e : Expr} {pos : Pos} {pin : Pn}
theorem ms_nil : PSs X [] (tS (ux X) pin sSkip) := pss_mono pss_nil fun D σ H q => by
  obtain ⟨E, F, as, c, E', g, r, e, q⟩ := q
  cases e
  exact q σ F H as (Step.refl g) r (SameAt.refl _ _)
theorem ms_never : PSs X rest (tS (ux X) pin sNever) := pss_mono pss_never fun D σ H q => by
  obtain ⟨E, F, as, c, E', g, r, e, q⟩ := q
  cases e
theorem ms_never1 : PS X st (tS (ux X) pin sNever) := ps_mono ps_never fun D σ H q => by
  obtain ⟨E, F, as, c, E', g, r, e, q⟩ := q
  cases e
theorem ms_cons {a b : Sm} (h : PS X st (tS (ux X) pin a)) (t : PSs X rest (tS (ux X) pin b)) : PSs X (st :: rest) (tS (ux X) pin (sSeq a b)) := pss_mono (pss_cons h t) fun D σ H q => by
  obtain ⟨E, F, as, c, E', g, r, e, q⟩ := q
  unfold sSeq at e
  split at e
  · rename_i E1 e1
    refine ⟨E, F, as, .nx, E1, g, r, e1, fun σ' F' H' as' s r1 w => ?_⟩
    exact ⟨E1, F', as', c, E', s.good, r1, e, q.step s w⟩
  · rename_i hn
    refine ⟨E, F, as, c, E', g, r, e, ?_⟩
    cases c with
    | nx => exact absurd e (hn _)
    | bk => exact q
    | ct => exact q
    | rt d => exact q
theorem ms_one {a : Sm} (h : PS X st (tS (ux X) pin a)) : PSs X [st] (tS (ux X) pin a) := pss_one h
theorem ms_pass : PS X (.Pass pos) (tS (ux X) pin sSkip) := ps_mono ps_pass fun D σ H q => by
  obtain ⟨E, F, as, c, E', g, r, e, q⟩ := q
  cases e
  exact q σ F H as (Step.refl g) r (SameAt.refl _ _)
theorem ms_break : PS X (.Break pos) (tS (ux X) pin sBreak) := ps_mono ps_break fun D σ H q => by
  obtain ⟨E, F, as, c, E', g, r, e, q⟩ := q
  cases e
  exact q σ F H as (Step.refl g) r (SameAt.refl _ _)
theorem ms_cont : PS X (.Continue pos) (tS (ux X) pin sCont) := ps_mono ps_continue fun D σ H q => by
  obtain ⟨E, F, as, c, E', g, r, e, q⟩ := q
  cases e
  exact q σ F H as (Step.refl g) r (SameAt.refl _ _)
theorem ms_drop {m : Ex} (h : PE X e (tM (ux X) m)) (hs : swapsWith e none pos.line X.env = pure false := by rfl) : PS X (.Expr e pos) (tS (ux X) pin (sDrop m)) := ps_mono (ps_expr h hs) fun D σ H q => by
  obtain ⟨E, F, as, c, E', g, r, e, q⟩ := q
  unfold sDrop at e
  split at e
  · rename_i d E1 e1
    cases e
    exact ⟨E, F, as, d, E', g, r, e1, fun v F' H' bs as' s r1 w => q σ F' H' as' s.right r1 (SameAt.refl _ _)⟩
  · cases e
theorem ms_ret {m : Ex} (h : PE X e (tM (ux X) m)) : PS X (.Return (some e) pos) (tS (ux X) pin (sRet m)) := ps_mono (ps_ret h) fun D σ H q => by
  obtain ⟨E, F, as, c, E', g, r, e, q⟩ := q
  unfold sRet at e
  split at e
  · rename_i d E1 e1
    cases e
    exact ⟨E, F, as, d, E', g, r, e1, fun v F' H' bs as' s r1 w => q v σ F' H' bs as' s r1 (SameAt.refl _ _) w⟩
  · cases e
theorem ms_retN : PS X (.Return none pos) (tS (ux X) pin sRetN) := ps_mono ps_retN fun D σ H q => by
  obtain ⟨E, F, as, c, E', g, r, e, q⟩ := q
  cases e
  exact q .non σ F H [] as (Step.refl g) r (SameAt.refl _ _) .non
theorem ms_if {c : Expr} {a b : List Stmt} {t : Tx} {ma mb : Sm} (hc : PT X c (tT (ux X) t)) (ha : PSs X a (tS (ux X) pin ma)) (hb : PSs X b (tS (ux X) pin mb)) : PS X (.If c a b pos) (tS (ux X) pin (sIf t ma mb)) := ps_mono (ps_if hc ha hb) fun D σ H q => by
  obtain ⟨E, F, as, c, E', g, r, e, q⟩ := q
  unfold sIf at e
  split at e
  · rename_i E1 e1
    refine ⟨E, F, as, true, E1, g, r, e1, fun F1 H1 as1 s1 r1 => ?_⟩
    show (if true = true then _ else _)
    rw [if_pos rfl]
    exact ⟨E1, F1, as1, c, E', s1.good, r1, e, q.step s1 (SameAt.refl _ _)⟩
  · rename_i E1 e1
    refine ⟨E, F, as, false, E1, g, r, e1, fun F1 H1 as1 s1 r1 => ?_⟩
    show (if false = true then _ else _)
    rw [if_neg Bool.false_ne_true]
    exact ⟨E1, F1, as1, c, E', s1.good, r1, e, q.step s1 (SameAt.refl _ _)⟩
  · cases e
/-! targets -/
theorem mg_name {i : Nat} {x : Str} (h : PG X (.Name x pos) (gName i)) (hp : pin i = false) : PG X (.Name x pos) (tG (ux X) pin (gSet i)) := ⟨fun pins s σ H v u Q I r q => h.run pins s σ H v u Q I r (by
  obtain ⟨E, F, bs, as, d, E', g, rE, w, e, q⟩ := q
  unfold gSet at e
  split at e
  · rename_i hi
    cases e
    obtain ⟨a0, rest, p, r1⟩ := rE.store hi w
    have p2 : (bs ++ as).Perm (a0 ++ (bs ++ rest)) := (p.append_left bs).trans (by
      rw [← List.append_assoc, ← List.append_assoc]
      exact List.perm_append_comm.append_right rest)
    exact q _ F H (bs ++ rest) (((Step.refl g).perm p2).right) r1 (SameAt.set hp)
  · cases e)⟩
theorem mgs_nil : PGs X [] (tGs (ux X) pin gNo) := ⟨fun pins s σ H vs us Q I r q => (pgs_nil (X := X)).run pins s σ H vs us Q I r (by
  obtain ⟨E, F, bs, as, ds, E', g, rE, w, e, q⟩ := q
  unfold gNo at e
  split at e
  · cases e
    cases w
    exact ⟨rfl, q σ F H as (Step.refl g) rE (SameAt.refl _ _)⟩
  · cases e)⟩
theorem mgs_cons {es : List Expr} {a : Gm} {b : Gs} (h1 : PG X e (tG (ux X) pin a)) (h2 : PGs X es (tGs (ux X) pin b)) (hs : (assignEach (e :: es) X.env).map (·.2) = assign e X.env :: (assignEach es X.env).map (·.2) := by rfl) : PGs X (e :: es) (tGs (ux X) pin (gOne a b)) :=
  ⟨fun pins s σ H vs us Q I r q => (pgs_cons h1 h2 hs).run pins s σ H vs us Q I r (by
  obtain ⟨E, F, bs, as, ds, E', g, rE, w, e, q⟩ := q
  unfold gOne at e
  split at e
  · rename_i d dr
    split at e
    · rename_i E1 e1
      cases w with
      | @cons v _ vr _ b1 b2 w1 w2 =>
        have g' : Good F H (b1 ++ (b2 ++ as)) := by rw [← List.append_assoc]; exact g
        have gp : Good F H (b2 ++ (b1 ++ as)) := g'.perm (by
          rw [← List.append_assoc, ← List.append_assoc]
          exact List.perm_append_comm.append_right as)
        refine ⟨v, vr, rfl, E, F, b1, as, d, E1, gp.sub (fun b z => List.mem_append_right _ z) (List.nodup_append.mp gp.nd).2.1, rE, w1, e1, fun σ1 F1 H1 as1 s1 r1 p1 => ?_⟩
        have s0 : Step F H ((b1 ++ b2) ++ as) F H (b2 ++ (b1 ++ as)) := (Step.refl g).perm (by
          rw [List.append_assoc, ← List.append_assoc b1, ← List.append_assoc b2]
          exact List.perm_append_comm.append_right as)
        have s2 : Step F H ((b1 ++ b2) ++ as) F1 H1 (b2 ++ as1) := s0.seq s1
        refine ⟨E1, F1, b2, as1, dr, E', s2.good, r1, w2.mono s1.ext (Step.wait s0 s1), e, fun σ' F' H' as' s r w => ?_⟩
        exact q σ' F' H' as' (s2.trans s) r (p1.trans w)
    · cases e
  · cases e)⟩
theorem mg_tup {es : List Expr} {k n : Nat} {gs : Gs} (hc : X.calm = true) (h : PGs X es (tGs (ux X) pin gs)) (hn : (assignEach es X.env).length = n := by rfl) (hst : (assignEach es X.env).findIdx? (·.1) = none := by rfl) : PG X (.Tuple es k pos) (tG (ux X) pin (gTup' n gs)) :=
  ⟨fun pins s σ H v u Q I r q => (pg_tup hc h hn hst).run pins s σ H v u Q I r (by
  obtain ⟨E, F, bs, as, d, E', g, rE, w, e, q⟩ := q
  unfold gTup' at e
  split at e
  · rename_i o ds
    split at e
    · rename_i hl
      cases w with
      | tupS w1 w2 => exact ⟨_, _, rfl, g.le.seqT w1, w2.len.trans hl, E, F, [], as, ds, E', g, rE, w2, e, q⟩
      | @tupO a vs _ b2 w1 w2 =>
        refine ⟨_, _, rfl, .inl (.inl w1), w2.len.trans hl, E, F, b2, as, ds, E', g.sub (fun b z => List.mem_cons_of_mem a z) (List.nodup_cons.mp g.nd).2, rE, w2, e, fun σ' F' H' as' s r w => ?_⟩
        exact q σ' F' H' as' (s.start (fun b z => List.mem_cons_of_mem a z) g.on) r w
    · cases e
  · cases e)⟩
theorem ms_asg {tg : Expr} {m : Ex} {gm : Gm} (he : PE X e (tM (ux X) m)) (hg : PG X tg (tG (ux X) pin gm)) (hs : swapsWithSole [tg] e pos.line X.env = pure false := by rfl) (hw : swappedStores [tg] e X.env = pure none := by rfl)
    (h1 : (assignEach [tg] X.env).map (·.2) = [assign tg X.env] := by rfl) : PS X (.Assign [tg] e pos) (tS (ux X) pin (sAsg m gm)) := ps_mono (ps_asg he hg hs hw h1) fun D σ H q => by
  obtain ⟨E, F, as, c, E', g, r, e, q⟩ := q
  unfold sAsg at e
  split at e
  · rename_i d E1 e1
    split at e
    · rename_i E2 e2
      cases e
      refine ⟨E, F, as, d, E1, g, r, e1, fun v F1 H1 bs as1 s1 r1 w => ?_⟩
      exact ⟨E1, F1, bs, as1, d, E', s1.good, r1, w, e2, fun σ' F' H' as' s r p => q σ' F' H' as' (s1.trans s) r p⟩
    · cases e
  · cases e
/-- name = [.. for ..] on one line -/
theorem ms_asg' {tg : Expr} {m : Ex} {gm : Gm} {t : TE} {g0 : TG} (h : PS X (.Assign [tg] e pos) (tAsg t g0)) (ht : ∀ σ H Q, tM (ux X) m σ H Q → t σ H Q) (hg : ∀ v σ H Q, tG (ux X) pin gm v σ H Q → g0 v σ H Q) : PS X (.Assign [tg] e pos) (tS (ux X) pin (sAsg m gm)) := ps_mono h fun D σ H q => by
  obtain ⟨E, F, as, c, E', g, r, e, q⟩ := q
  unfold sAsg at e
  split at e
  · rename_i d E1 e1
    split at e
    · rename_i E2 e2
      cases e
      refine ht σ H _ ⟨E, F, as, d, E1, g, r, e1, fun v F1 H1 bs as1 s1 r1 w => ?_⟩
      exact hg v σ H1 _ ⟨E1, F1, bs, as1, d, E', s1.good, r1, w, e2, fun σ' F' H' as' s r p => q σ' F' H' as' (s1.trans s) r p⟩
    · cases e
  · cases e
/-- a, b = x, y with plain local names -/
def sPar (i j : Nat) (m : Lx) : Sm := fun E => match m E with
  | some ([d, d'], E1) => if i < E1.length then (if j < E1.length then some (.nx, (E1.set i (some d)).set j (some d')) else none) else none
  | _ => none
theorem ms_par {i j : Nat} {x y : Str} {a b : Expr} {m : Lx} {px py pt : Pos} {kt k2 pt2} (h : PS X (.Assign [.Tuple [.Name x px, .Name y py] kt pt] (.Tuple [a, b] k2 pt2) pos) (tPar i j (tL (ux X) m))) (hi : pin i = false) (hj : pin j = false) :
    PS X (.Assign [.Tuple [.Name x px, .Name y py] kt pt] (.Tuple [a, b] k2 pt2) pos) (tS (ux X) pin (sPar i j m)) := ps_mono h fun D σ H q => by
  obtain ⟨E, F, as, c, E', g, r, e, q⟩ := q
  unfold sPar at e
  split at e
  · rename_i d d' E1 e1
    split at e
    · rename_i l1
      split at e
      · rename_i l2
        cases e
        refine ⟨E, F, as, _, E1, g, r, e1, fun vs F1 H1 bs as1 s1 r1 w => ?_⟩
        cases w with
        | @cons v _ vr _ b1 b2 w1 w2 =>
          cases w2 with
          | @cons v' _ vr _ b3 b4 w3 w4 =>
            cases w4
            refine ⟨v, v', rfl, ?_⟩
            obtain ⟨a0, rest, p, r2⟩ := r1.store l1 w1
            obtain ⟨a0', rest', p', r3⟩ := r2.store (by simpa using l2) w3
            rw [List.append_nil] at s1
            have p2 : (b1 ++ b3 ++ as1).Perm ((a0 ++ a0') ++ (b3 ++ rest')) := by
              have q1 : (b1 ++ b3 ++ as1).Perm (b1 ++ b3 ++ (a0 ++ rest)) := p.append_left _
              have q2 : (b1 ++ b3 ++ (a0 ++ rest)).Perm (a0 ++ (b3 ++ (b1 ++ rest))) := by
                refine List.Perm.trans (l₂ := (b1 ++ b3) ++ a0 ++ rest) (by simp) ?_
                refine List.Perm.trans (List.Perm.append_right rest List.perm_append_comm) ?_
                rw [List.append_assoc]
                refine List.Perm.append_left a0 ?_
                refine List.Perm.trans (List.Perm.append_right rest List.perm_append_comm) ?_
                rw [List.append_assoc]
              have q3 : (a0 ++ (b3 ++ (b1 ++ rest))).Perm (a0 ++ (b3 ++ (a0' ++ rest'))) := (p'.append_left _).append_left _
              have q4 : (a0 ++ (b3 ++ (a0' ++ rest'))).Perm ((a0 ++ a0') ++ (b3 ++ rest')) := by
                rw [List.append_assoc]
                refine List.Perm.append_left a0 ?_
                rw [← List.append_assoc, ← List.append_assoc]
                exact List.Perm.append_right rest' List.perm_append_comm
              exact q1.trans (q2.trans (q3.trans q4))
            exact q _ F1 H1 (b3 ++ rest') ((s1.perm p2).right) r3 ((SameAt.set hi).trans (SameAt.set hj))
      · cases e
    · cases e
  · cases e
end

/-! ### forgetting slots -/
def kill : List Nat → En → En
  | [], E => E
  | i :: is, E => kill is (E.set i none)
theorem REnv.kill {U : Wd} {F H : Hp} {σ : Sl} : ∀ (is : List Nat) {E : En} {as : List Addr}, REnv U F H σ E as → ∃ a0 rest, as.Perm (a0 ++ rest) ∧ REnv U F H σ (MP.kill is E) rest
  | [], E, as, h => ⟨[], as, List.Perm.refl _, h⟩
  | i :: is, E, as, h => by
    obtain ⟨a0, rest, p, r⟩ := h.drop i
    obtain ⟨a1, rest1, p1, r1⟩ := REnv.kill is r
    exact ⟨a0 ++ a1, rest1, p.trans (by rw [List.append_assoc]; exact p1.append_left a0), r1⟩
def sKill (is : List Nat) : Sm := fun E => some (.nx, kill is E)

/-! ### while -/
def sWhile (c : Tx) (b : Sm) (dead : List Nat) : Nat → Sm
  | 0 => fun _ => none
  | n + 1 => fun E => match c E with
    | some (false, E1) => some (.nx, E1)
    | some (true, E1) => match b E1 with
      | some (.nx, E2) => sWhile c b dead n (kill dead E2)
      | some (.ct, E2) => sWhile c b dead n (kill dead E2)
      | some (.bk, E2) => some (.nx, E2)
      | some (.rt d, E2) => some (.rt d, E2)
      | none => none
    | none => none
section
variable {X : Cx} {pin : Pn} {pos : Pos}
theorem ms_while {c : Expr} {body : List Stmt} {t : Tx} {b : Sm} {dead : List Nat} {n : Nat} (hp : PassesOwn (model X.prog X.w) X.A X.env X.xe) (hc : PT X c (tT (ux X) t)) (hb : PSs X body (tS (ux X) pin b)) : PS X (.While c body [] pos) (tS (ux X) pin (sWhile t b dead n)) :=
  ps_mono (ps_while hp hc hb) fun D σ H q => by
  refine ⟨fun m σ H => tS (ux X) pin (sWhile t b dead m) D σ H, ⟨n, q⟩, ?_⟩
  rintro m σ H ⟨E, F, as, c, E', g, r, e, q⟩
  cases m with
  | zero => cases e
  | succ m =>
    unfold sWhile at e
    split at e
    · rename_i E1 e1
      cases e
      refine ⟨E, F, as, false, E', g, r, e1, fun F1 H1 as1 s1 r1 => ?_⟩
      show (if false = true then _ else _)
      rw [if_neg Bool.false_ne_true]
      exact q σ F1 H1 as1 s1 r1 (SameAt.refl _ _)
    · rename_i E1 e1
      refine ⟨E, F, as, true, E1, g, r, e1, fun F1 H1 as1 s1 r1 => ?_⟩
      show (if true = true then _ else _)
      rw [if_pos rfl]
      refine ⟨fun σ' H' => tS (ux X) pin (sWhile t b dead m) D σ' H', fun σ' H' z => ⟨m, Nat.lt_succ_self m, z⟩, ?_⟩
      split at e
      · rename_i E2 e2
        refine ⟨E1, F1, as1, .nx, E2, s1.good, r1, e2, fun σ' F2 H2 as2 s2 r2 w => ?_⟩
        obtain ⟨a0, rest, p, r3⟩ := r2.kill dead
        exact ⟨_, F2, rest, c, E', ((Step.refl s2.good).perm p).right.good, r3, e, q.step (s1.trans ((s2.perm p).right)) w⟩
      · rename_i E2 e2
        refine ⟨E1, F1, as1, .ct, E2, s1.good, r1, e2, fun σ' F2 H2 as2 s2 r2 w => ?_⟩
        obtain ⟨a0, rest, p, r3⟩ := r2.kill dead
        exact ⟨_, F2, rest, c, E', ((Step.refl s2.good).perm p).right.good, r3, e, q.step (s1.trans ((s2.perm p).right)) w⟩
      · rename_i E2 e2
        cases e
        exact ⟨E1, F1, as1, .bk, E', s1.good, r1, e2, fun σ' F2 H2 as2 s2 r2 w => q σ' F2 H2 as2 (s1.trans s2) r2 w⟩
      · rename_i d E2 e2
        cases e
        exact ⟨E1, F1, as1, .rt d, E', s1.good, r1, e2, fun v σ' F2 H2 bs as2 s2 r2 w z => q v σ' F2 H2 bs as2 (s1.trans s2) r2 w z⟩
      · cases e
    · cases e
end

/-! ### handing over: handles taken out of the environment, and put back -/
def takeL : List Hd → En → Option (List D × En)
  | [], E => some ([], E)
  | .val d :: hs, E => match takeL hs E with
    | some (ds, E1) => some (d :: ds, E1)
    | none => none
  | .slot i :: hs, E => match E[i]? with
    | some (some d) => match takeL hs (if d.frozen = true then E else E.set i none) with
      | some (ds, E1) => some (d :: ds, E1)
      | none => none
    | _ => none
def putL : List Hd → List D → List (Option D) → En → En
  | .slot i :: hs, d :: ds, f :: fs, E => putL hs ds fs (if d.frozen = true then E else E.set i f)
  | .val _ :: hs, _ :: ds, _ :: fs, E => putL hs ds fs E
  | _, _, _, E => E
/-- the handles' slots hold the values -/
inductive HsAt (σ : Sl) : List V → List Hd → Prop where
  | nil : HsAt σ [] []
  | slot {i : Nat} {v : V} {vs : List V} {hs : List Hd} : σ[i]? = some (some v) → HsAt σ vs hs → HsAt σ (v :: vs) (.slot i :: hs)
  | val {d : D} {v : V} {vs : List V} {hs : List Hd} : HsAt σ vs hs → HsAt σ (v :: vs) (.val d :: hs)
section
variable {U : Wd} {F H : Hp} {σ : Sl}
theorem RpHL.at : ∀ {vs : List V} {hs : List Hd} {bs : List Addr}, RpHL U F H σ vs hs bs → HsAt σ vs hs
  | _, _, _, .nil => .nil
  | _, .slot i :: _, _, .cons q t => .slot q.2 t.at
  | _, .val d :: _, _, .cons q t => .val t.at
theorem takeL_ok : ∀ {vs : List V} {hs : List Hd} {bs : List Addr} {E E2 : En} {as : List Addr} {ds : List D}, RpHL U F H σ vs hs bs → REnv U F H σ E as → takeL hs E = some (ds, E2) →
    ∃ ws as2, RpL U F H vs ds ws ∧ REnv U F H σ E2 as2 ∧ (bs ++ as).Perm (ws ++ as2)
  | _, _, _, E, E2, as, ds, .nil, r, e => by
    cases e
    exact ⟨[], as, .nil, r, List.Perm.refl _⟩
  | _, .val d :: hs, _, E, E2, as, ds, .cons (as := b1) (bs := b2) q t, r, e => by
    unfold takeL at e
    split at e
    · rename_i ds' E1 e1
      cases e
      obtain ⟨ws, as2, h1, h2, h3⟩ := takeL_ok t r e1
      exact ⟨b1 ++ ws, as2, .cons q h1, h2, by rw [List.append_assoc, List.append_assoc]; exact h3.append_left b1⟩
    · cases e
  | _, .slot i :: hs, _, E, E2, as, ds, .cons (as := b1) (bs := b2) q t, r, e => by
    obtain ⟨q1, q2⟩ := q
    subst q1
    unfold takeL at e
    split at e
    · rename_i d ed
      obtain ⟨v, a1, rest, z1, z2, p, r2⟩ := r.take ed
      rw [q2] at z1
      cases z1
      by_cases hf : d.frozen = true
      · rw [if_pos hf] at e
        split at e
        · rename_i ds' E1 e1
          cases e
          obtain ⟨ws, as2, h1, h2, h3⟩ := takeL_ok t r e1
          have : a1 = [] := z2.nil_of hf
          subst this
          exact ⟨ws, as2, .cons (as := []) z2 h1, h2, h3⟩
        · cases e
      · rw [if_neg hf] at e
        split at e
        · rename_i ds' E1 e1
          cases e
          obtain ⟨ws, as2, h1, h2, h3⟩ := takeL_ok t r2 e1
          refine ⟨a1 ++ ws, as2, .cons z2 h1, h2, ?_⟩
          rw [List.nil_append, List.append_assoc]
          refine List.Perm.trans ?_ (h3.append_left a1)
          refine (p.append_left b2).trans ?_
          rw [← List.append_assoc, ← List.append_assoc]
          exact List.perm_append_comm.append_right rest
        · cases e
    · cases e
theorem putL_ok : ∀ {vs : List V} {hs : List Hd} {ds : List D} {fs : List (Option D)} {cs : List Addr} {E : En} {as : List Addr}, HsAt σ vs hs → RpE U F H (vs.map some) fs cs → REnv U F H σ E as →
    ∃ a0 as', (cs ++ as).Perm (a0 ++ as') ∧ REnv U F H σ (putL hs ds fs E) as'
  | _, [], ds, fs, cs, E, as, _, f, r => by
    unfold putL
    exact ⟨cs, as, List.Perm.refl _, r⟩
  | _, .val d :: hs, [], fs, cs, E, as, _, f, r => by
    unfold putL
    exact ⟨cs, as, List.Perm.refl _, r⟩
  | _, .slot d :: hs, [], fs, cs, E, as, _, f, r => by
    unfold putL
    exact ⟨cs, as, List.Perm.refl _, r⟩
  | _, .val d' :: hs, d :: ds, [], cs, E, as, _, f, r => by
    unfold putL
    exact ⟨cs, as, List.Perm.refl _, r⟩
  | _, .slot d' :: hs, d :: ds, [], cs, E, as, _, f, r => by
    unfold putL
    exact ⟨cs, as, List.Perm.refl _, r⟩
  | _, .val d' :: hs, d :: ds, f :: fs, cs, E, as, .val t, q, r => by
    show ∃ a0 as', (cs ++ as).Perm (a0 ++ as') ∧ REnv U F H σ (putL hs ds fs E) as'
    cases q with
    | nn q => exact putL_ok t q r
    | @sm _ _ _ _ a1 c2 w q =>
      obtain ⟨a0, as', p, r'⟩ := putL_ok (ds := ds) t q r
      exact ⟨a1 ++ a0, as', by rw [List.append_assoc, List.append_assoc]; exact p.append_left a1, r'⟩
  | _, .slot i :: hs, d :: ds, f :: fs, cs, E, as, .slot hv t, q, r => by
    show ∃ a0 as', (cs ++ as).Perm (a0 ++ as') ∧ REnv U F H σ (putL hs ds fs (if d.frozen = true then E else E.set i f)) as'
    by_cases hf : d.frozen = true
    · rw [if_pos hf]
      cases q with
      | nn q => exact putL_ok t q r
      | @sm _ _ _ _ a1 c2 w q =>
        obtain ⟨a0, as', p, r'⟩ := putL_ok (ds := ds) t q r
        exact ⟨a1 ++ a0, as', by rw [List.append_assoc, List.append_assoc]; exact p.append_left a1, r'⟩
    · rw [if_neg hf]
      obtain ⟨b0, rest, p0, r0⟩ := r.drop i
      cases q with
      | nn q =>
        obtain ⟨a0, as', p, r'⟩ := putL_ok (ds := ds) t q r0
        refine ⟨b0 ++ a0, as', ?_, r'⟩
        refine (p0.append_left cs).trans ?_
        rw [List.append_assoc]
        refine List.Perm.trans ?_ (p.append_left b0)
        rw [← List.append_assoc, ← List.append_assoc]
        exact List.perm_append_comm.append_right rest
      | @sm _ dd _ _ a1 c2 w q =>
        by_cases hi : i < E.length
        · have r1 := r0.putS (set_none_get hi) hv w
          rw [List.set_set] at r1
          obtain ⟨a0, as', p, r'⟩ := putL_ok (ds := ds) t q r1
          refine ⟨b0 ++ a0, as', ?_, r'⟩
          refine (p0.append_left _).trans ?_
          rw [List.append_assoc b0 a0 as']
          refine List.Perm.trans ?_ (p.append_left b0)
          have q1 : (a1 ++ c2 ++ (b0 ++ rest)).Perm (b0 ++ (a1 ++ c2 ++ rest)) := by
            rw [← List.append_assoc, ← List.append_assoc b0]
            exact List.perm_append_comm.append_right rest
          refine q1.trans (List.Perm.append_left b0 ?_)
          rw [← List.append_assoc]
          exact List.perm_append_comm.append_right rest
        · have l := r.len
          have : σ[i]? = none := List.getElem?_eq_none_iff.mpr (by omega)
          rw [this] at hv
          cases hv
end

/-! ### calls -/
abbrev Fm := List D → Option (D × List (Option D))
def xCall (mf : Fm) (m : Hx) : Ex := fun E => match m E with
  | some (hs, E1) => match takeL hs E1 with
    | some (ds, E2) => match mf ds with
      | some (d, fs) => some (d, putL hs ds fs E2)
      | none => none
    | none => none
  | none => none
/-- a def's promise by its mirror -/
def spM (U : Wd) (mf : Fm) : Sp := fun vs H Q _ => ∃ (F : Hp) (ds : List D) (ws : List Addr) (d : D) (fs : List (Option D)), Good F H ws ∧ RpL U F H vs ds ws ∧ mf ds = some (d, fs) ∧
  ∀ v F' H' bs cs, Step F H ws F' H' (bs ++ cs) → Rp U F' H' v d bs → REnv U F' H' (vs.map some) fs cs → Q v H'
theorem call_reads {U : Wd} {mf : Fm} {m : Hx} {σ : Sl} {H : Hp} {Q : VK} {E0 : XK} (q : tM U (xCall mf m) σ H Q) : tH U m σ H fun vs H1 => spM U mf vs H1 Q E0 := by
  obtain ⟨E, F, as, d, E', g, rE, e, q⟩ := q
  unfold xCall at e
  split at e
  · rename_i hs E1 e1
    split at e
    · rename_i ds E2 e2
      split at e
      · rename_i d' fs e3
        cases e
        refine ⟨E, F, as, hs, E1, g, rE, e1, fun vs F1 H1 b1 as1 s1 r1 w1 => ?_⟩
        obtain ⟨ws, as2, z1, z2, z3⟩ := takeL_ok w1 r1 e2
        have s2 := s1.perm z3
        refine ⟨F1, ds, ws, d, fs, s2.left.good, z1, e3, fun v F' H' bs cs s w r => ?_⟩
        have s2' : Step F H as F1 H1 (as2 ++ ws) := s2.perm List.perm_append_comm
        have s3 : Step F H as F' H' (as2 ++ (bs ++ cs)) := s2'.seq s
        have r2 : REnv U F' H' σ E2 as2 := z2.mono s.ext (Step.wait s2' s)
        obtain ⟨cs0, rc, pc⟩ := r
        obtain ⟨a0, as', p, r'⟩ := putL_ok (ds := ds) w1.at rc r2
        refine q v F' H' bs as' ?_ r' w
        have p2 : (as2 ++ (bs ++ cs)).Perm (a0 ++ (bs ++ as')) := by
          have q1 : (as2 ++ (bs ++ cs)).Perm (bs ++ (cs ++ as2)) := by
            rw [← List.append_assoc bs]
            exact List.perm_append_comm
          have q2 : (bs ++ (cs ++ as2)).Perm (bs ++ (a0 ++ as')) := ((pc.symm.append_right as2).trans p).append_left bs
          refine q1.trans (q2.trans ?_)
          rw [← List.append_assoc, ← List.append_assoc]
          exact List.perm_append_comm.append_right as'
        exact (s3.perm p2).right
      · cases e
    · cases e
  · cases e
/-- the def at f keeps its mirror, wherever nothing is being shown (no guard runs) -/
structure FnG (P : Program) (w : World) (K : PySem.W.Frag) (mg : Str → Option Value) (base : Heap) (k : Nat) (f : Addr) (fd : FuncData) (ps : List Str) (mf : Fm) : Prop where
  len : ∀ ds r, mf ds = some r → ds.length = ps.length
  run : ∀ (A : Around) (os : List PySem.Env) (s : Shared) (H : Hp) (args : Args) (us : List Value) (vs : List V) (Q : VK), Room k A → A.guards = some [] →
    Env0 P w K mg base A os s H → BindsTo s fd args (ps.zip us) → Vals vs us → spM ⟨P, w, K⟩ mf vs H Q E0 → codeAny (model P w) A (.call (.ref f) args) (CR CX0 os P w H s Q E0) s
theorem spM_len {U : Wd} {mf : Fm} {n : Nat} (hl : ∀ ds r, mf ds = some r → ds.length = n) {vs : List V} {H : Hp} {Q : VK} {E : XK} (h : spM U mf vs H Q E) : vs.length = n := by
  obtain ⟨F, ds, ws, d, fs, g, l, e, q⟩ := h
  rw [l.len]
  exact hl _ _ e
section
variable {X : Cx} {e : Expr} {es : List Expr} {pos p : Pos} {k : Nat} {f : Addr} {fd : FuncData} {ps : List Str} {mf : Fm} {m : Hx} {x : Str}
/-- the call itself -/
theorem run_G (G : FnG X.prog X.w X.K X.mg X.base k f fd ps mf) (hr : Room k X.A) (gd : X.A.guards = some []) {ks : List (Str × Value)} {pins : List (Addr × Obj)} {σ : Sl} {H : Hp} {s : Shared} {Q : VK} {us ws : List Value} {vs : List V} (I : Inv X pins σ H s)
    (hb : BindsTo s fd ⟨ws, ks⟩ (ps.zip us)) (r : Vals vs us) (h : spM (ux X) mf vs H Q E0) : wpAny (model X.prog X.w) X.A (call (.ref f) ws ks) (EP X pins σ Q) X.xe s :=
  wpAny_call (codeAny_mono (G.run X.A X.stack s H _ us vs Q hr gd I.env0 hb r h) fun res s2 hres => match res, hres with
    | .error _, z => z.elim
    | .ok (.ret _), z => I.after z)
theorem mv_call (G : FnG X.prog X.w X.K X.mg X.base k f fd ps mf) (hr : Room k X.A) (gd : X.A.guards = some []) (hg : Gl X x) (hm : X.mg x = some (.ref f)) (hk : PySem.W.keepIn X.K (.ref f) = true) (hb : Binds X.K fd ps [])
    (ha : PA X (e :: es) (tH (ux X) m)) (hdb : (x == ("__debug__" : Str)) = false := by decide) (he : starEach (e :: es) X.env = (false, eval e X.env) :: starEach es X.env := by rfl) (hpl : (backTo pos (starEach es X.env)).any (·.1) = false := by rfl) :
    PE X (.Call (.Name x p) (e :: es) [] pos) (tM (ux X) (xCall mf m)) :=
  ⟨fun pins s σ H Q I q => wpAny_Call_Name_kw (ld_glob I hg hm (PySem.W.callWith_K (h₀ := X.base) I.ok.mod.kin hk (thn (ha.run pos pins s σ H _ I (call_reads (E0 := E0) q)) fun us s1 ⟨vs, H1, I1, r, z⟩ => ⟨I1.kIn, by
    have hl : (us ++ []).length = ps.length := by
      rw [List.append_nil, ← r.length]
      exact spM_len G.len z
    have hb1 := hb s1 us I1.kIn hl
    rw [List.append_nil] at hb1
    exact run_G G hr gd I1 hb1 r z⟩) he hpl) hdb)⟩
end

/-! ### defs -/
def finals : List Bool → En → List (Option D)
  | [], _ => []
  | true :: bs, x :: E => x :: finals bs E
  | false :: bs, _ :: E => none :: finals bs E
  | _ :: bs, [] => none :: finals bs []
def fnM (slots : Nat) (mask : List Bool) (body : Sm) : Fm := fun ds => if ds.length = mask.length then
    match body (ds.map some ++ List.replicate (slots - mask.length) none) with
    | some (.rt d, E') => some (d, finals mask E')
    | some (.nx, E') => some (.non, finals mask E')
    | _ => none
  else none
section
variable {U : Wd} {F H : Hp}
theorem RpE.ofL : ∀ {vs : List V} {ds : List D} {as : List Addr} (n : Nat), RpL U F H vs ds as → RpE U F H (vs.map some ++ List.replicate n none) (ds.map some ++ List.replicate n none) as
  | _, _, _, n, .nil => by
    show RpE U F H (List.replicate n none) (List.replicate n none) []
    induction n with
    | zero => exact .nil
    | succ n ih =>
      rw [List.replicate_succ]
      exact .nn ih
  | _, _, _, n, .cons h t => .sm h (RpE.ofL n t)
theorem finals_ok : ∀ {mask : List Bool} {σ : Sl} {E : En} {as : List Addr} {vs : List V}, RpE U F H σ E as → vs.length = mask.length → (∀ (i : Nat), mask[i]? = some true → σ[i]? = (vs.map some)[i]?) → ∃ cs rest, as.Perm (cs ++ rest) ∧ RpE U F H (vs.map some) (finals mask E) cs
  | [], σ, E, as, vs, r, hl, h => by
    have : vs = [] := List.eq_nil_of_length_eq_zero hl
    subst this
    exact ⟨[], as, List.Perm.refl _, .nil⟩
  | b :: mask, σ, E, as, [], r, hl, h => by simp at hl
  | b :: mask, _, _, _, v :: vs, .nil, hl, h => by
    have hl' : vs.length = mask.length := by simpa using hl
    have e : finals (b :: mask) [] = none :: finals mask [] := by cases b <;> rfl
    have : ∀ (i : Nat), mask[i]? = some true → ([] : Sl)[i]? = (vs.map some)[i]? := fun i q => h (i + 1) q
    obtain ⟨cs, rest, p, q⟩ := finals_ok (mask := mask) .nil hl' this
    rw [e]
    exact ⟨cs, rest, p, .nn q⟩
  | b :: mask, _, _, as, v :: vs, .nn (σ := σ) (E := E) t, hl, h => by
    have hl' : vs.length = mask.length := by simpa using hl
    have : ∀ (i : Nat), mask[i]? = some true → σ[i]? = (vs.map some)[i]? := fun i q => h (i + 1) q
    obtain ⟨cs, rest, p, q⟩ := finals_ok (mask := mask) t hl' this
    have e : finals (b :: mask) (none :: E) = none :: finals mask E := by cases b <;> rfl
    rw [e]
    exact ⟨cs, rest, p, .nn q⟩
  | b :: mask, _, _, _, v :: vs, .sm (v := v') (d := d) (σ := σ) (E := E) (as := a1) (bs := a2) w t, hl, h => by
    have hl' : vs.length = mask.length := by simpa using hl
    have : ∀ (i : Nat), mask[i]? = some true → σ[i]? = (vs.map some)[i]? := fun i q => h (i + 1) q
    obtain ⟨cs, rest, p, q⟩ := finals_ok (mask := mask) t hl' this
    cases b with
    | true =>
      have hv := h 0 rfl
      have hv : v' = v := by simpa using hv
      subst hv
      exact ⟨a1 ++ cs, rest, by rw [List.append_assoc]; exact p.append_left a1, .sm w q⟩
    | false =>
      refine ⟨cs, a1 ++ rest, ?_, .nn q⟩
      refine (p.append_left a1).trans ?_
      rw [← List.append_assoc, ← List.append_assoc]
      exact List.perm_append_comm.append_right rest
end
section
variable {P : Program} {w : World} {K : PySem.W.Frag} {mg : Str → Option Value} {base : Heap}
/-- the body's end is the promise's -/
theorem body_reads {U : Wd} {pin : Pn} {body : Sm} {mask : List Bool} {N : List Str} {vs : List V} {H : Hp} {Q : VK} {E : XK} (hpin : ∀ i, mask[i]? = some true → pin i = true) (h : spM U (fnM N.length mask body) vs H Q E) :
    tS U pin body { nx := fun _ H' => Q .non H', rt := Q } (L2.start N vs) H := by
  obtain ⟨F, ds, ws, d, fs, g, r, e, q⟩ := h
  unfold fnM at e
  split at e
  · rename_i hl
    have lv : vs.length = mask.length := by rw [r.len, hl]
    have r0 : REnv U F H (L2.start N vs) (ds.map some ++ List.replicate (N.length - mask.length) none) ws := by
      refine ⟨ws, ?_, List.Perm.refl _⟩
      unfold L2.start
      rw [lv]
      exact RpE.ofL _ r
    have pins : ∀ {σ' : Sl}, SameAt pin (L2.start N vs) σ' → ∀ i, mask[i]? = some true → σ'[i]? = (vs.map some)[i]? := fun {σ'} sa i hi => by
      rw [sa.2 i (hpin i hi)]
      have hlt : i < vs.length := by
        rw [lv]
        exact (List.getElem?_eq_some_iff.mp hi).1
      unfold L2.start
      rw [List.getElem?_append_left (by simpa using hlt)]
    split at e
    · rename_i d' E' eb
      cases e
      refine ⟨_, F, ws, .rt d, E', g, r0, eb, fun v σ' F' H' bs as' s rr sa wv => ?_⟩
      obtain ⟨as0, rr, pp⟩ := rr
      obtain ⟨cs, rest, p1, rf⟩ := finals_ok rr lv (pins sa)
      refine q v F' H' bs cs ?_ wv ⟨cs, rf, List.Perm.refl _⟩
      have p2 : (bs ++ as').Perm (rest ++ (bs ++ cs)) := by
        refine ((pp.symm.trans p1).append_left bs).trans ?_
        rw [← List.append_assoc]
        exact List.perm_append_comm
      exact (s.perm p2).right
    · rename_i E' eb
      cases e
      refine ⟨_, F, ws, .nx, E', g, r0, eb, fun σ' F' H' as' s rr sa => ?_⟩
      obtain ⟨as0, rr, pp⟩ := rr
      obtain ⟨cs, rest, p1, rf⟩ := finals_ok rr lv (pins sa)
      refine q .non F' H' [] cs ?_ .non ⟨cs, rf, List.Perm.refl _⟩
      have p2 : as'.Perm (rest ++ cs) := (pp.symm.trans p1).trans List.perm_append_comm
      exact (s.perm p2).right
    · cases e
  · cases e
theorem fnM_len {n : Nat} {mask : List Bool} {body : Sm} {ds : List D} {r : D × List (Option D)} (h : fnM n mask body ds = some r) : ds.length = mask.length := by
  unfold fnM at h
  split at h
  · assumption
  · cases h
/-- THE RULE for a def by its mirror -/
theorem ok_def {x qual : Str} {st : Stmt} {f : Addr} {fd : FuncData} {N ps : List Str} {k : Nat} {body : Sm} {mask : List Bool} {pin : Pn} (Fn : Fun K x qual st f fd) (S : FnScope N ps (defScope st)) (hm : mask.length = ps.length) (hpin : ∀ i, mask[i]? = some true → pin i = true)
    (hbody : ∀ (cdv : Value) (A : Around) (outer : List PySem.Env) (s : Shared) (H : Hp), Room k (A.deeper (PyProof.Rows.envOfC qual (defScope st) s.heap.objs.size f cdv)) → A.guards = some [] →
      PSs (cxOf CX0 P w K mg base N qual (defScope st) f cdv A outer s H E0).nox (defBody st) (tS ⟨P, w, K⟩ pin body)) : FnG P w K mg base (k + 1) f fd ps (fnM N.length mask body) := by
  obtain ⟨oc, od, kV, doc, pm, an, cdv, ct, osl, rfl, lk, code⟩ := Fn.ex
  refine ⟨fun ds r h => (fnM_len h).trans hm, fun A os s H args us vs Q hr gd e0 hb rv hsp => ?_⟩
  have len : vs.length = ps.length := spM_len (fun ds r h => (fnM_len h).trans hm) hsp
  have old : ∀ b o, base.get? b = some o → s.heap.get? b = some o := fun b o z => (e0.bs b o z).1
  have inK := e0.mod.kin.keeps old
  -- each parameter is a local or a cell that is made at the call
  have kinds : ∀ y ∈ ps.zip us, (defScope st).names.lookup y.1 = some .local ∨ ((defScope st).names.lookup y.1 = some .cell ∧ ((cellsFrom (s.heap.objs.size + 1) (defScope st).names []).lookup y.1).isSome = true) := by
    intro y hy
    cases S.par y.1 (List.of_mem_zip (a := y.1) (b := y.2) hy).1 with
    | inl z => exact Or.inl z
    | inr z => exact Or.inr ⟨z, PySem.W.cellsFrom_some _ _ _ (Or.inl z)⟩
  refine codeAny_call_function hr.depth (inK _ _ lk) rfl S.co S.gen rfl (PySem.W.codeRec_of inK code) (hb _ _ _ _ ?_)
  refine wpAny_newFunctionEnv_cells S.kind kinds ?_
  rintro env rfl s1 made
  refine ⟨(e0.mod.nolimit.keeps old).keeps made.toInCall.keep, codeAny_func ?_⟩
  have body0 := (hbody cdv A os s H (hr.deeper _) gd).nox
  have I := inv_start (CX := CX0) (E := E0) S hr.hd e0 len rv made
  refine wpAny_mono (body0.run [] s1 (L2.start N vs) H _ I (body_reads hpin hsp)) ?_ fun _ _ z => z
  intro fl s2 z
  have fin0 : ∀ {σ2 : Sl} {H2 : Hp} {v : V} {u : Value}, Inv (cxOf CX0 P w K mg base N qual (defScope st) f cdv A os s H E0) [] σ2 H2 s2 → RelV v u → Q v H2 → CE os P w H s Q u s2 :=
    fun {σ2 H2 v u} J r2 q2 => ⟨v, H2, J.os, J.bare, J.base, J.hok, r2, q2⟩
  match fl, z with
  | .ret u, ⟨v, σ2, H2, J, r2, q2⟩ => exact fin0 J r2 q2
  | .next, ⟨σ2, H2, J, q2⟩ => exact fin0 (v := .non) (u := .none) J rfl q2
  | .brk, ⟨_, _, _, q2⟩ => exact q2.elim
  | .cont, ⟨_, _, _, q2⟩ => exact q2.elim
end
end MP

/-! Mirror layer, part 4: what loops walk; for; comprehensions. -/
namespace MP
open PySem PySem.Spec L2

def ItOk (U : Wd) (J : It) (F1 H1 : Hp) (ws : List Addr) (items : List D) : Prop := ∀ F2 H2, Fle F1 F2 → Good F2 H2 [] → (∀ a ∈ ws, H2 a = H1 a) →
  (∀ (i : Nat) (d : D), items[i]? = some d → J.go i H2 ∧ ∀ x H', J.yld i H2 x H' → ∃ F', Step F2 H2 [] F' H' [] ∧ Rp U F' H' x d []) ∧ J.stop items.length H2
abbrev Mk := List D → Option (List D)
def tI (U : Wd) (m : Hx) (mk : Mk) : TI := fun σ H R => ∃ (E : En) (F : Hp) (as : List Addr) (hs : List Hd) (E1 : En) (ds : List D) (E2 : En) (items : List D), Good F H as ∧ REnv U F H σ E as ∧ m E = some (hs, E1) ∧ takeL hs E1 = some (ds, E2) ∧ mk ds = some items ∧
  ∀ J vs F' H' ws as', Step F H as F' H' (ws ++ as') → REnv U F' H' σ E2 as' → RpL U F' H' vs ds ws → HsAt σ vs hs → ItOk U J F' H' ws items → R J H'

/-! ### views -/
section
variable {U : Wd} {F F' H H' : Hp} {v : V} {o : Bool} {ds : List D} {as : List Addr}
theorem lst_view (h : Rp U F H v (.lst o ds) as) : ∃ a vs bs, v = .ref a ∧ RpL U F H vs ds bs ∧ (∀ b ∈ bs, b ∈ as) ∧ (∀ F2 H2, Fle F F2 → Fle F2 H2 → (∀ b ∈ as, H2 b = H b) → H2 a = some (.lst vs)) := by
  cases h with
  | lstS h l => exact ⟨_, _, [], rfl, l, fun _ z => (nomatch z), fun F2 H2 a b _ => b _ _ (a _ _ h)⟩
  | @lstO a vs _ bs h l => exact ⟨_, _, bs, rfl, l, fun b z => List.mem_cons_of_mem a z, fun F2 H2 _ _ k => (k a (.head _)).trans h⟩
theorem tup_view (h : Rp U F H v (.tup o ds) as) : ∃ a vs bs, v = .ref a ∧ RpL U F H vs ds bs ∧ (∀ b ∈ bs, b ∈ as) ∧ (∀ F2 H2, Fle F F2 → Fle F2 H2 → (∀ b ∈ as, H2 b = H b) → SqT U.K H2 a vs) := by
  cases h with
  | tupS h l => exact ⟨_, _, [], rfl, l, fun _ z => (nomatch z), fun F2 H2 a b _ => (a.trans b).seqT h⟩
  | @tupO a vs _ bs h l => exact ⟨_, _, bs, rfl, l, fun b z => List.mem_cons_of_mem a z, fun F2 H2 _ _ k => .inl (.inl ((k a (.head _)).trans h))⟩
theorem RpL.frozen0 {vs : List V} (h : RpL U F H vs ds as) (hf : frozenL ds = true) : RpL U F H vs ds [] := by
  have := h.frozen.mp hf
  subst this
  exact h
/-- a list whose items are frozen, now -/
theorem lst_now (g : Fle F H) (h : Rp U F H v (.lst o ds) as) : ∃ a vs, v = .ref a ∧ H a = some (.lst vs) ∧ ∃ bs, RpL U F H vs ds bs := by
  obtain ⟨a, vs, bs, e, l, _, k⟩ := lst_view h
  exact ⟨a, vs, e, k F H (Fle.refl F) g fun _ _ => rfl, bs, l⟩
theorem tup_now (g : Fle F H) (h : Rp U F H v (.tup o ds) as) : ∃ a vs, v = .ref a ∧ SqT U.K H a vs ∧ ∃ bs, RpL U F H vs ds bs := by
  obtain ⟨a, vs, bs, e, l, _, k⟩ := tup_view h
  exact ⟨a, vs, e, k F H (Fle.refl F) g fun _ _ => rfl, bs, l⟩
end

theorem Good.right' {F H : Hp} {ws as : List Addr} (g : Good F H (ws ++ as)) : Good F H as := g.sub (fun b z => List.mem_append_right _ z) (List.nodup_append.mp g.nd).2.1
/-! ### kinds of walks -/
def mkLst : Mk
  | [.lst _ ds] => if frozenL ds = true then some ds else none
  | _ => none
def mkTupI : Mk
  | [.tup _ ds] => if frozenL ds = true then some ds else none
  | _ => none
def mkScr : Mk
  | [.scr ns] => some (ns.map D.int)
  | _ => none
def signD (c : Nat) : D := .str ⟨#[c]⟩
def mkStr : Mk
  | [.str s] => some (s.cps.toList.map signD)
  | _ => none
def smallI (i : Int) : Bool := decide (-(2 ^ 62) ≤ i ∧ i < 2 ^ 62)
def rngD (a : Int) (n : Nat) : List D := (List.range n).map fun i => .int (a + (i : Nat))
def mkRng1 : Mk
  | [.int n] => if smallI n = true then some (rngD 0 n.toNat) else none
  | _ => none
def mkRng2 : Mk
  | [.int a, .int b] => if smallI a = true then (if smallI b = true then some (rngD a (b - a).toNat) else none) else none
  | _ => none
def enumD (n : Nat) : List D → List D
  | [] => []
  | d :: ds => .tup false [.int n, d] :: enumD (n + 1) ds
def mkEnum : Mk
  | [.lst _ ds] => if frozenL ds = true then some (enumD 0 ds) else none
  | _ => none
def zipD : List D → List D → List D
  | x :: xs, y :: ys => .tup false [x, y] :: zipD xs ys
  | _, _ => []
def mkZip : Mk
  | [.lst _ ds, .lst _ es] => if frozenL ds = true then (if frozenL es = true then some (zipD ds es) else none) else none
  | _ => none
theorem enumD_get : ∀ (ds : List D) (n i : Nat), (enumD n ds)[i]? = ds[i]?.map fun d => D.tup false [.int ((n + i : Nat) : Int), d]
  | [], n, i => by simp [enumD]
  | d :: ds, n, 0 => by simp [enumD]
  | d :: ds, n, i + 1 => by
    rw [enumD, List.getElem?_cons_succ, List.getElem?_cons_succ, enumD_get ds (n + 1) i]
    rw [show n + 1 + i = n + (i + 1) by omega]
theorem enumD_len : ∀ (ds : List D) (n : Nat), (enumD n ds).length = ds.length
  | [], n => rfl
  | d :: ds, n => by rw [enumD, List.length_cons, List.length_cons, enumD_len ds]
theorem zipD_get : ∀ (xs ys : List D) (i : Nat) (d : D), (zipD xs ys)[i]? = some d → ∃ x y, xs[i]? = some x ∧ ys[i]? = some y ∧ d = .tup false [x, y]
  | x :: xs, y :: ys, 0, d, h => by
    simp only [zipD, List.getElem?_cons_zero, Option.some.injEq] at h
    exact ⟨x, y, rfl, rfl, h.symm⟩
  | x :: xs, y :: ys, i + 1, d, h => by
    simp only [zipD, List.getElem?_cons_succ] at h
    exact zipD_get xs ys i d h
  | [], ys, i, d, h => by simp [zipD] at h
  | x :: xs, [], i, d, h => by simp [zipD] at h
theorem zipD_len : ∀ (xs ys : List D), (zipD xs ys).length = min xs.length ys.length
  | x :: xs, y :: ys => by rw [zipD, List.length_cons, List.length_cons, List.length_cons, zipD_len xs ys]; omega
  | [], ys => by simp [zipD]
  | x :: xs, [] => by simp [zipD]

section
variable {U : Wd} {m : Hx} {mk : Mk} {σ : Sl} {H : Hp} {R : It → Hp → Prop}
/-- the handles come, as data -/
theorem tI_reads {T : List V → Hp → Prop} (q : tI U m mk σ H R)
    (k : ∀ (vs : List V) (ds : List D) (items : List D) (F' H' : Hp) (ws : List Addr), Good F' H' [] → RpL U F' H' vs ds ws → mk ds = some items → (∀ J, ItOk U J F' H' ws items → R J H') → T vs H') : tH U m σ H T := by
  obtain ⟨E, F, as, hs, E1, ds, E2, items, g, r, e1, e2, e3, q⟩ := q
  refine ⟨E, F, as, hs, E1, g, r, e1, fun vs F' H' bs as' s r1 w => ?_⟩
  obtain ⟨ws, as2, z1, z2, z3⟩ := takeL_ok w r1 e2
  exact k vs ds items F' H' ws s.good.zero z1 e3 fun J ok => q J vs F' H' ws as2 (s.perm z3) z2 z1 w.at ok
theorem tO_of_tH {m : Ox} {T : List V → Hp → Prop} (q : tH U (hCons m hNil) σ H T) : tO U m σ H fun x H1 => T [x] H1 := by
  have := hCons_reads q
  obtain ⟨E, F, as, d, E', g, rE, e, q⟩ := this
  refine ⟨E, F, as, d, E', g, rE, e, fun v F' H' bs as' s r w => ?_⟩
  obtain ⟨E2, F2, as2, d2, E2', g2, rE2, e2, q2⟩ := q v F' H' bs as' s r w
  cases e2
  exact q2 [] F2 H' [] as2 (Step.refl g2) rE2 .nil
theorem one_view {vs : List V} {d : D} {ws : List Addr} {F H : Hp} (h : RpL U F H vs [d] ws) : ∃ v, vs = [v] ∧ Rp U F H v d ws := by
  cases h with
  | @cons v _ vs _ as bs h t =>
    cases t
    rw [List.append_nil]
    exact ⟨v, rfl, h⟩
theorem two_view {vs : List V} {d e : D} {ws : List Addr} {F H : Hp} (h : RpL U F H vs [d, e] ws) : ∃ v u as bs, vs = [v, u] ∧ ws = as ++ bs ∧ Rp U F H v d as ∧ Rp U F H u e bs := by
  cases h with
  | @cons v _ vs _ as bs h t =>
    obtain ⟨u, rfl, hu⟩ := one_view t
    exact ⟨v, u, as, bs, rfl, rfl, h, hu⟩
end
section
variable {X : Cx} {tg e e2 : Expr} {pos p tpos : Pos} {m m2 : Ox}
theorem pi_mono {iter : Expr} {t t' : TI} (h : PI X tg iter t) (k : ∀ σ H R, t' σ H R → t σ H R) : PI X tg iter t' := ⟨fun pins s σ H R I q => h.run pins s σ H R I (k σ H R q)⟩
theorem itl_ok {K : PySem.W.Frag} {U : Wd} {a : Addr} {vs : List V} {ds : List D} {F H : Hp} {ws : List Addr} (h : ∀ F2 H2, Fle F F2 → Good F2 H2 [] → (∀ b ∈ ws, H2 b = H b) → SqL K H2 a vs) (l : RpL U F H vs ds []) : ItOk U (Itl K a) F H ws ds := fun F2 H2 f g k => by
  have q := h F2 H2 f g k
  refine ⟨fun i d e => ?_, ⟨vs, q, by rw [l.len]; exact Nat.le_refl _⟩⟩
  obtain ⟨v, ev, rv⟩ := l.get0 e
  refine ⟨⟨vs, v, q, ev⟩, fun x H' y => ?_⟩
  obtain ⟨rfl, y⟩ := y
  have := y vs q
  rw [ev] at this
  cases this
  exact ⟨F2, Step.refl g, rv.mono0 f⟩
theorem itt_ok {K : PySem.W.Frag} {U : Wd} {a : Addr} {vs : List V} {ds : List D} {F H : Hp} {ws : List Addr} (h : ∀ F2 H2, Fle F F2 → Good F2 H2 [] → (∀ b ∈ ws, H2 b = H b) → SqT K H2 a vs) (l : RpL U F H vs ds []) : ItOk U (Itt K a) F H ws ds := fun F2 H2 f g k => by
  have q := h F2 H2 f g k
  refine ⟨fun i d e => ?_, ⟨vs, q, by rw [l.len]; exact Nat.le_refl _⟩⟩
  obtain ⟨v, ev, rv⟩ := l.get0 e
  refine ⟨⟨vs, v, q, ev⟩, fun x H' y => ?_⟩
  obtain ⟨rfl, y⟩ := y
  have := y vs q
  rw [ev] at this
  cases this
  exact ⟨F2, Step.refl g, rv.mono0 f⟩
theorem mi_lst (h : PE X e (tO (ux X) m)) : PI X tg e (tI (ux X) (hCons m hNil) mkLst) := pi_mono (pi_list h) fun σ H R q => by
  have hz : tH (ux X) (hCons m hNil) σ H (fun vs H1 => ∃ a, vs = [.ref a] ∧ (∃ xs, SqL X.K H1 a xs) ∧ R (Itl X.K a) H1) := tI_reads q fun vs0 ds0 items F' H' ws g w0 e0 k => by
    unfold mkLst at e0
    split at e0
    · rename_i o ds'
      split at e0
      · rename_i hf
        cases e0
        obtain ⟨v, rfl, w1⟩ := one_view w0
        obtain ⟨a, vs, bs, rfl, l, sub, kk⟩ := lst_view w1
        refine ⟨a, rfl, ⟨vs, .inl (.inl (kk F' H' (Fle.refl _) g.le fun _ _ => rfl))⟩, k _ ?_⟩
        exact itl_ok (fun F2 H2 f g2 k2 => .inl (.inl (kk F2 H2 f g2.le k2))) (l.frozen0 hf)
      · cases e0
    · cases e0
  obtain ⟨E, F, as, d, E', g, rE, e1, z⟩ := tO_of_tH hz
  refine ⟨E, F, as, d, E', g, rE, e1, fun v F' H' bs as' s r w => ?_⟩
  obtain ⟨a, e2, x, y⟩ := z v F' H' bs as' s r w
  exact ⟨a, by simpa using e2, x, y⟩
theorem mi_scr (h : PE X e (tO (ux X) m)) : PI X tg e (tI (ux X) (hCons m hNil) mkScr) := pi_mono (pi_list h) fun σ H R q => by
  have hz : tH (ux X) (hCons m hNil) σ H (fun vs H1 => ∃ a, vs = [.ref a] ∧ (∃ xs, SqL X.K H1 a xs) ∧ R (Itl X.K a) H1) := tI_reads q fun vs0 ds0 items F' H' ws g w0 e0 k => by
    unfold mkScr at e0
    split at e0
    · rename_i ns
      cases e0
      obtain ⟨v, rfl, w1⟩ := one_view w0
      cases w1 with
      | scr w =>
        refine ⟨_, rfl, ⟨_, g.le.seqL w⟩, k _ ?_⟩
        exact itl_ok (fun F2 H2 f g2 k2 => (f.trans g2.le).seqL w) (RpL.ints ns)
    · cases e0
  obtain ⟨E, F, as, d, E', g, rE, e1, z⟩ := tO_of_tH hz
  refine ⟨E, F, as, d, E', g, rE, e1, fun v F' H' bs as' s r w => ?_⟩
  obtain ⟨a, e2, x, y⟩ := z v F' H' bs as' s r w
  exact ⟨a, by simpa using e2, x, y⟩
theorem mi_tup (h : PE X e (tO (ux X) m)) : PI X tg e (tI (ux X) (hCons m hNil) mkTupI) := pi_mono (pi_tup h) fun σ H R q => by
  have hz : tH (ux X) (hCons m hNil) σ H (fun vs H1 => ∃ a, vs = [.ref a] ∧ (∃ xs, SqT X.K H1 a xs) ∧ R (Itt X.K a) H1) := tI_reads q fun vs0 ds0 items F' H' ws g w0 e0 k => by
    unfold mkTupI at e0
    split at e0
    · rename_i o ds'
      split at e0
      · rename_i hf
        cases e0
        obtain ⟨v, rfl, w1⟩ := one_view w0
        obtain ⟨a, vs, bs, rfl, l, sub, kk⟩ := tup_view w1
        refine ⟨a, rfl, ⟨vs, kk F' H' (Fle.refl _) g.le fun _ _ => rfl⟩, k _ ?_⟩
        exact itt_ok (fun F2 H2 f g2 k2 => kk F2 H2 f g2.le k2) (l.frozen0 hf)
      · cases e0
    · cases e0
  obtain ⟨E, F, as, d, E', g, rE, e1, z⟩ := tO_of_tH hz
  refine ⟨E, F, as, d, E', g, rE, e1, fun v F' H' bs as' s r w => ?_⟩
  obtain ⟨a, e2, x, y⟩ := z v F' H' bs as' s r w
  exact ⟨a, by simpa using e2, x, y⟩
theorem mi_str (h : PE X e (tO (ux X) m)) : PI X tg e (tI (ux X) (hCons m hNil) mkStr) := pi_mono (pi_str h) fun σ H R q => by
  have hz : tH (ux X) (hCons m hNil) σ H (fun vs H1 => ∃ x, vs = [.str x] ∧ R (Its x) H1) := tI_reads q fun vs0 ds0 items F' H' ws g w0 e0 k => by
    unfold mkStr at e0
    split at e0
    · rename_i s
      cases e0
      obtain ⟨v, rfl, w1⟩ := one_view w0
      obtain ⟨rfl, rfl⟩ := rp_str w1
      refine ⟨s, rfl, k _ fun F2 H2 f g2 k2 => ⟨fun i d e => ?_, ?_⟩⟩
      · rw [List.getElem?_map] at e
        cases ec : s.cps.toList[i]? with
        | none => rw [ec] at e; cases e
        | some c =>
          rw [ec] at e
          cases e
          have hi : i < s.cps.size := by
            have := (List.getElem?_eq_some_iff.mp ec).1
            simpa using this
          refine ⟨hi, fun x H' y => ?_⟩
          obtain ⟨rfl, c', e1, rfl⟩ := y
          rw [Array.getElem?_toList] at ec
          rw [ec] at e1
          cases e1
          exact ⟨F2, Step.refl g2, .str _⟩
      · show s.cps.size ≤ _
        rw [List.length_map, Array.length_toList]
        exact Nat.le_refl _
    · cases e0
  obtain ⟨E, F, as, d, E', g, rE, e1, z⟩ := tO_of_tH hz
  refine ⟨E, F, as, d, E', g, rE, e1, fun v F' H' bs as' s r w => ?_⟩
  obtain ⟨a, e2, x⟩ := z v F' H' bs as' s r w
  exact ⟨a, by simpa using e2, x⟩
theorem itr_ok {U : Wd} {a : Int} {n : Nat} {F H : Hp} {ws : List Addr} : ItOk U (Itr a n) F H ws (rngD a n) := fun F2 H2 f g k => by
  refine ⟨fun i d e => ?_, by show n ≤ _; rw [rngD, List.length_map, List.length_range]; exact Nat.le_refl _⟩
  rw [rngD, List.getElem?_map] at e
  cases ei : (List.range n)[i]? with
  | none => rw [ei] at e; cases e
  | some j =>
    rw [ei] at e
    obtain ⟨hi, hj⟩ := List.getElem?_eq_some_iff.mp ei
    rw [List.getElem_range] at hj
    subst hj
    rw [List.length_range] at hi
    cases e
    refine ⟨hi, fun x H' y => ?_⟩
    obtain ⟨rfl, rfl⟩ := y
    exact ⟨F2, Step.refl g, .int _⟩
theorem mi_rng1 {mh : Hx} (hg : Gl X "range") (hm : X.mg "range" = none) (ha : PA X [e] (tH (ux X) mh)) (hs : starEach [e] X.env = [(false, eval e X.env)] := by rfl) : PI X tg (.Call (.Name "range" p) [e] [] pos) (tI (ux X) mh mkRng1) := pi_mono (pi_range1 hg hm ha hs) fun σ H R q => by
  refine tI_reads q fun vs ds items F' H' ws g w e k => ?_
  unfold mkRng1 at e
  split at e
  · rename_i n
    split at e
    · rename_i hn
      cases e
      obtain ⟨v, rfl, w1⟩ := one_view w
      obtain ⟨rfl, rfl⟩ := rp_int w1
      have hn := of_decide_eq_true hn
      exact ⟨n, rfl, hn.1, hn.2, k _ itr_ok⟩
    · cases e
  · cases e
theorem mi_rng2 {mh : Hx} (hg : Gl X "range") (hm : X.mg "range" = none) (ha : PA X [e, e2] (tH (ux X) mh)) (hs : starEach [e, e2] X.env = [(false, eval e X.env), (false, eval e2 X.env)] := by rfl) (hs2 : starEach [e2] X.env = [(false, eval e2 X.env)] := by rfl) :
    PI X tg (.Call (.Name "range" p) [e, e2] [] pos) (tI (ux X) mh mkRng2) := pi_mono (pi_range2 hg hm ha hs hs2) fun σ H R q => by
  refine tI_reads q fun vs ds items F' H' ws g w e k => ?_
  unfold mkRng2 at e
  split at e
  · rename_i a b
    split at e
    · rename_i h1
      split at e
      · rename_i h2
        cases e
        obtain ⟨v, u, as, bs, rfl, rfl, w1, w2⟩ := two_view w
        obtain ⟨rfl, rfl⟩ := rp_int w1
        obtain ⟨rfl, rfl⟩ := rp_int w2
        have h1 := of_decide_eq_true h1
        have h2 := of_decide_eq_true h2
        exact ⟨a, b, rfl, ⟨h1.1, h1.2, h2.1, h2.2⟩, k _ itr_ok⟩
      · cases e
    · cases e
  · cases e
theorem pair_new {U : Wd} {F H : Hp} {T : Addr} {x y : V} {d e : D} (g : Good F H []) (hT : H T = none) (h1 : Rp U F H x d []) (h2 : Rp U F H y e []) : ∃ F', Step F H [] F' (upd H T (.tup [x, y])) [] ∧ Rp U F' (upd H T (.tup [x, y])) (.ref T) (.tup false [d, e]) [] := by
  have t := Step.allocF (o := .tup [x, y]) g hT
  exact ⟨_, t, .tupS (.inl (.inl upd_same)) (.cons0 (h1.mono0 t.ext) (.cons0 (h2.mono0 t.ext) .nil))⟩
theorem mi_enum {mh : Hx} {elts : List Expr} {kk : Nat} (hg : Gl X "enumerate") (hm : X.mg "enumerate" = none) (ha : PA X [e] (tH (ux X) mh)) (hs : starEach [e] X.env = [(false, eval e X.env)] := by rfl) :
    PI X (.Tuple elts kk tpos) (.Call (.Name "enumerate" p) [e] [] pos) (tI (ux X) mh mkEnum) := pi_mono (pi_enum hg hm ha hs) fun σ H R q => by
  refine tI_reads q fun vs0 ds0 items F' H' ws g w0 e0 k => ?_
  unfold mkEnum at e0
  split at e0
  · rename_i o ds'
    split at e0
    · rename_i hf
      cases e0
      obtain ⟨v, rfl, w1⟩ := one_view w0
      obtain ⟨a, vs, bs, rfl, l, sub, kk⟩ := lst_view w1
      have l0 := l.frozen0 hf
      refine ⟨a, vs, rfl, .inl (.inl (kk F' H' (Fle.refl _) g.le fun _ _ => rfl)), k _ fun F2 H2 f g2 k2 => ?_⟩
      have hq : SqL X.K H2 a vs := .inl (.inl (kk F2 H2 f g2.le k2))
      refine ⟨fun i d e => ?_, ⟨vs, hq, by rw [enumD_len, l.len]; exact Nat.le_refl _⟩⟩
      rw [enumD_get] at e
      cases ed : ds'[i]? with
      | none => rw [ed] at e; cases e
      | some d0 =>
        rw [ed] at e
        cases e
        obtain ⟨v, ev, rv⟩ := l0.get0 ed
        refine ⟨⟨vs, v, hq, ev⟩, fun x H'' y => ?_⟩
        obtain ⟨T, x0, rfl, hT, rfl, hx⟩ := y
        have := hx vs hq
        rw [ev] at this
        cases this
        rw [Nat.zero_add]
        exact pair_new g2 hT (.int _) (rv.mono0 f)
    · cases e0
  · cases e0
theorem mi_zip {mh : Hx} {elts : List Expr} {kk : Nat} (hg : Gl X "zip") (hm : X.mg "zip" = none) (ha : PA X [e, e2] (tH (ux X) mh)) (hs : starEach [e, e2] X.env = (false, eval e X.env) :: starEach [e2] X.env := by rfl) (hpl : (backTo pos (starEach [e2] X.env)).any (·.1) = false := by rfl) :
    PI X (.Tuple elts kk tpos) (.Call (.Name "zip" p) [e, e2] [] pos) (tI (ux X) mh mkZip) := pi_mono (pi_zip hg hm ha hs hpl) fun σ H R q => by
  refine tI_reads q fun vs0 ds0 items F' H' ws g w0 e0 k => ?_
  unfold mkZip at e0
  split at e0
  · rename_i o1 xs o2 ys
    split at e0
    · rename_i hf1
      split at e0
      · rename_i hf2
        cases e0
        obtain ⟨v, u, as, bs, rfl, rfl, w1, w2⟩ := two_view w0
        obtain ⟨a, vs, b1, rfl, l1, sub1, k1⟩ := lst_view w1
        obtain ⟨b, us, b2, rfl, l2, sub2, k2⟩ := lst_view w2
        have l1' := l1.frozen0 hf1
        have l2' := l2.frozen0 hf2
        refine ⟨a, b, vs, us, rfl, .inl (.inl (k1 F' H' (Fle.refl _) g.le fun _ _ => rfl)), .inl (.inl (k2 F' H' (Fle.refl _) g.le fun _ _ => rfl)), k _ fun F2 H2 f g2 kk => ?_⟩
        have hq1 : SqL X.K H2 a vs := .inl (.inl (k1 F2 H2 f g2.le fun z hz => kk z (List.mem_append_left _ hz)))
        have hq2 : SqL X.K H2 b us := .inl (.inl (k2 F2 H2 f g2.le fun z hz => kk z (List.mem_append_right _ hz)))
        refine ⟨fun i d e => ?_, ⟨vs, us, hq1, hq2, by rw [zipD_len, l1.len, l2.len]; omega⟩⟩
        obtain ⟨x, y, ex, ey, rfl⟩ := zipD_get _ _ _ _ e
        obtain ⟨v, ev, rv⟩ := l1'.get0 ex
        obtain ⟨u, eu, ru⟩ := l2'.get0 ey
        refine ⟨⟨vs, us, v, u, hq1, hq2, ev, eu⟩, fun z H'' y => ?_⟩
        obtain ⟨T, x0, y0, rfl, hT, rfl, hx, hy⟩ := y
        have h1 := hx vs hq1
        have h2 := hy us hq2
        rw [ev] at h1
        rw [eu] at h2
        cases h1
        cases h2
        exact pair_new g2 hT (rv.mono0 f) (ru.mono0 f)
      · cases e0
    · cases e0
  · cases e0
end

/-! ### for -/
def pinU (l : List Nat) (pin : Pn) : Pn := fun i => l.contains i || pin i
def HsIn (pin : Pn) (m : Hx) : Prop := ∀ E hs E1, m E = some (hs, E1) → ∀ i, Hd.slot i ∈ hs → pin i = true
theorem hs_nil {pin : Pn} : HsIn pin hNil := fun E hs E1 e i z => by
  cases e
  cases z
theorem hs_val {pin : Pn} {m : Ex} {ms : Hx} (t : HsIn pin ms) : HsIn pin (hCons (oV m) ms) := fun E hs E1 e i z => by
  unfold hCons at e
  split at e
  · rename_i d E' e1
    split at e
    · rename_i ds E'' e2
      cases e
      rcases List.mem_cons.mp z with z | z
      · subst z
        unfold oV at e1
        split at e1
        · cases e1
        · cases e1
      · exact t _ _ _ e2 i z
    · cases e
  · cases e
theorem hs_slot {pin : Pn} {j : Nat} {ms : Hx} (h : pin j = true) (t : HsIn pin ms) : HsIn pin (hCons (oN j) ms) := fun E hs E1 e i z => by
  unfold hCons at e
  split at e
  · rename_i d E' e1
    split at e
    · rename_i ds E'' e2
      cases e
      rcases List.mem_cons.mp z with z | z
      · subst z
        unfold oN at e1
        split at e1
        · cases e1
          exact h
        · cases e1
      · exact t _ _ _ e2 i z
    · cases e
  · cases e
def sForL (g : Gm) (b : Sm) (dead : List Nat) : List D → Sm
  | [] => fun E => some (.nx, E)
  | x :: xs => fun E => match g x E with
    | some E1 => match b E1 with
      | some (.nx, E2) => sForL g b dead xs (kill dead E2)
      | some (.ct, E2) => sForL g b dead xs (kill dead E2)
      | some (.bk, E2) => some (.nx, E2)
      | some (.rt d, E2) => some (.rt d, E2)
      | none => none
    | none => none
def sFor (m : Hx) (mk : Mk) (g : Gm) (b : Sm) (dead : List Nat) : Sm := fun E => match m E with
  | some (hs, E1) => match takeL hs E1 with
    | some (ds, E2) => match mk ds with
      | some items => match sForL g b dead items E2 with
        | some (c, E3) => some (c, putL hs ds (ds.map some) E3)
        | none => none
      | none => none
    | none => none
  | none => none
theorem RpE.ofL0 {U : Wd} {F H : Hp} {vs : List V} {ds : List D} {as : List Addr} (h : RpL U F H vs ds as) : RpE U F H (vs.map some) (ds.map some) as := by
  have := RpE.ofL 0 h
  simpa using this
theorem HsAt.keep {σ σ' : Sl} {pin : Pn} (p : SameAt pin σ σ') : ∀ {vs : List V} {hs : List Hd}, HsAt σ vs hs → (∀ i, Hd.slot i ∈ hs → pin i = true) → HsAt σ' vs hs
  | _, _, .nil, _ => .nil
  | _, _, .slot h t, k => .slot (by rw [p.2 _ (k _ (.head _))]; exact h) (HsAt.keep p t fun i z => k i (.tail _ z))
  | _, _, .val t, k => .val (HsAt.keep p t fun i z => k i (.tail _ z))
section
variable {U : Wd} {pin : Pn} {D0 : Ends} {σ0 σ : Sl} {F H F1 H1 : Hp} {as ws as1 : List Addr} {vs : List V} {ds : List D} {hs : List Hd} {E E' : En}
/-- the loop's end: what was taken is put back -/
theorem OutOk.back (q : OutOk U pin D0 σ0 F H (ws ++ as) (putL hs ds (ds.map some) E') c) (l : RpL U F H vs ds ws) (hv : HsAt σ0 vs hs) : ∀ {c' : Ctl}, c' = c →
    match c' with
    | .nx => ∀ σ' F' H' as', Step F H as F' H' as' → REnv U F' H' σ' E' as' → SameAt pin σ0 σ' → HsAt σ' vs hs → Good F H (ws ++ as) → D0.nx σ' H'
    | .bk => ∀ σ' F' H' as', Step F H as F' H' as' → REnv U F' H' σ' E' as' → SameAt pin σ0 σ' → HsAt σ' vs hs → Good F H (ws ++ as) → D0.bk σ' H'
    | .ct => ∀ σ' F' H' as', Step F H as F' H' as' → REnv U F' H' σ' E' as' → SameAt pin σ0 σ' → HsAt σ' vs hs → Good F H (ws ++ as) → D0.ct σ' H'
    | .rt d => ∀ v σ' F' H' bs as', Step F H as F' H' (bs ++ as') → REnv U F' H' σ' E' as' → SameAt pin σ0 σ' → HsAt σ' vs hs → Good F H (ws ++ as) → Rp U F' H' v d bs → D0.rt v H' := by
  have key : ∀ {σ' : Sl} {F' H' : Hp} {bs as' : List Addr}, Step F H as F' H' (bs ++ as') → REnv U F' H' σ' E' as' → HsAt σ' vs hs → Good F H (ws ++ as) → ∃ as2, Step F H (ws ++ as) F' H' (bs ++ as2) ∧ REnv U F' H' σ' (putL hs ds (ds.map some) E') as2 := fun {σ' F' H' bs as'} s r h g => by
    have s0 : Step F H (ws ++ as) F H (ws ++ as) := Step.refl g
    have s2 : Step F H (ws ++ as) F' H' (ws ++ (bs ++ as')) := s0.seq s
    have l2 : RpL U F' H' vs ds ws := l.mono s.ext (Step.wait s0 s)
    obtain ⟨a0, as2, p, r2⟩ := putL_ok (ds := ds) h (RpE.ofL0 l2) r
    refine ⟨as2, ?_, r2⟩
    have p2 : (ws ++ (bs ++ as')).Perm (a0 ++ (bs ++ as2)) := by
      have q1 : (ws ++ (bs ++ as')).Perm (bs ++ (ws ++ as')) := by
        rw [← List.append_assoc, ← List.append_assoc]
        exact List.perm_append_comm.append_right as'
      refine q1.trans ((p.append_left bs).trans ?_)
      rw [← List.append_assoc, ← List.append_assoc]
      exact List.perm_append_comm.append_right as2
    exact (s2.perm p2).right
  intro c' e
  subst e
  cases c' with
  | nx =>
    intro σ' F' H' as' s r w h g
    obtain ⟨as2, s2, r2⟩ := key (bs := []) s r h g
    exact q σ' F' H' as2 s2 r2 w
  | bk =>
    intro σ' F' H' as' s r w h g
    obtain ⟨as2, s2, r2⟩ := key (bs := []) s r h g
    exact q σ' F' H' as2 s2 r2 w
  | ct =>
    intro σ' F' H' as' s r w h g
    obtain ⟨as2, s2, r2⟩ := key (bs := []) s r h g
    exact q σ' F' H' as2 s2 r2 w
  | rt d =>
    intro v σ' F' H' bs as' s r w h g z
    obtain ⟨as2, s2, r2⟩ := key s r h g
    exact q v σ' F' H' bs as2 s2 r2 w z
end
theorem Step.pass {F H F1 H1 : Hp} {as as1 ws : List Addr} (s : Step F H as F1 H1 as1) (g : Good F H (ws ++ as)) : Step F H (ws ++ as) F1 H1 (ws ++ as1) := Step.seq (Step.refl g) s
section
variable {X : Cx} {pin pin' : Pn} {pos : Pos} {tg iter : Expr} {m : Hx} {mk : Mk} {g : Gm} {b : Sm} {dead : List Nat} {body : List Stmt}
theorem ms_for (hp : PassesOwn (model X.prog X.w) X.A X.env X.xe) (hc : X.calm = true) (hi : PI X tg iter (tI (ux X) m mk)) (hg : PG X tg (tG (ux X) pin' g)) (hb : PSs X body (tS (ux X) pin' b)) (h1 : ∀ i, pin i = true → pin' i = true) (h2 : HsIn pin' m)
    (hs : ∀ x, foldedSetIterable iter X.env x = pure x := by intro _; rfl) : PS X (.For tg iter body [] pos) (tS (ux X) pin (sFor m mk g b dead)) := ps_mono (ps_for hp hc hi hg hb hs) fun D0 σ H q => by
  obtain ⟨E, F, as, c, E', gd, r, e, q⟩ := q
  unfold sFor at e
  split at e
  · rename_i hs0 E1 e1
    split at e
    · rename_i ds E2 e2
      split at e
      · rename_i items e3
        split at e
        · rename_i c' E3 e4
          cases e
          refine ⟨E, F, as, hs0, E1, ds, E2, items, gd, r, e1, e2, e3, fun J vs F0 H0 ws as0 s0 r0 l0 hv0 ok => ?_⟩
          have hin : ∀ i, Hd.slot i ∈ hs0 → pin' i = true := fun i z => h2 _ _ _ e1 i z
          have q0 := q.step s0 (SameAt.refl _ _)
          refine ⟨fun i n σ' H' => n = items.length - i ∧ i ≤ items.length ∧ ∃ E4 F4 as4, Step F0 H0 (ws ++ as0) F4 H' (ws ++ as4) ∧ (∀ a ∈ ws, H' a = H0 a) ∧ REnv (ux X) F4 H' σ' E4 as4 ∧ SameAt pin' σ σ' ∧ sForL g b dead (items.drop i) E4 = some (c, E3),
            ⟨items.length, rfl, Nat.zero_le _, E2, F0, as0, Step.refl s0.good, fun _ _ => rfl, r0, SameAt.refl _ _, e4⟩, ?_⟩
          rintro i n σ1 H1 ⟨rfl, hi, E4, F4, as4, s4, k4, r4, p4, e5⟩
          obtain ⟨ok1, ok2⟩ := ok F4 H1 s4.ext s4.good.zero k4
          have l4 : RpL (ux X) F4 H1 vs ds ws := l0.mono s4.ext k4
          have q4 := q0.step s4 (p4.weak h1)
          have bk := OutOk.back q4 l4 (hv0.keep p4 hin) rfl
          by_cases hlt : i < items.length
          · rw [List.drop_eq_getElem_cons hlt] at e5
            obtain ⟨go, yl⟩ := ok1 i _ (List.getElem?_eq_getElem hlt)
            refine .inr ⟨go, fun σ' H' => items.length - (i + 1) = items.length - (i + 1) ∧ i + 1 ≤ items.length ∧ ∃ E4 F4 as4, Step F0 H0 (ws ++ as0) F4 H' (ws ++ as4) ∧ (∀ a ∈ ws, H' a = H0 a) ∧ REnv (ux X) F4 H' σ' E4 as4 ∧ SameAt pin' σ σ' ∧ sForL g b dead (items.drop (i + 1)) E4 = some (c, E3), fun σ' H' z => ⟨_, by omega, z⟩, fun x Hx hy => ?_⟩
            obtain ⟨Fx, sx, rx⟩ := yl x Hx hy
            obtain ⟨sx2, r5⟩ := fin (Step.refl s4.good.right') r4 sx
            have sx3 : Step F4 H1 as4 Fx Hx as4 := sx2
            have gx := (sx3.pass s4.good)
            have kx : ∀ a ∈ ws, Hx a = H0 a := fun a z => (Step.wait (Step.refl s4.good) sx3 a z).trans (k4 a z)
            unfold sForL at e5
            split at e5
            · rename_i E5 e6
              refine ⟨E4, Fx, [], as4, items[i], E5, sx3.good, r5, rx, e6, fun σ2 F6 H6 as6 s6 r6 p6 => ?_⟩
              have s6' : Step F4 H1 as4 F6 H6 as6 := sx3.trans s6
              have next : ∀ {σ3 F7 H7 as7 E7}, Step F6 H6 as6 F7 H7 as7 → REnv (ux X) F7 H7 σ3 E7 as7 → SameAt pin' σ2 σ3 → sForL g b dead (items.drop (i + 1)) (kill dead E7) = some (c, E3) →
                  (items.length - (i + 1) = items.length - (i + 1) ∧ i + 1 ≤ items.length ∧ ∃ E4 F4 as4, Step F0 H0 (ws ++ as0) F4 H7 (ws ++ as4) ∧ (∀ a ∈ ws, H7 a = H0 a) ∧ REnv (ux X) F4 H7 σ3 E4 as4 ∧ SameAt pin' σ σ3 ∧ sForL g b dead (items.drop (i + 1)) E4 = some (c, E3)) :=
                fun {σ3 F7 H7 as7 E7} s7 r7 p7 e7 => by
                  obtain ⟨a0, rest, pp, r8⟩ := r7.kill dead
                  have s8 : Step F4 H1 as4 F7 H7 rest := (s6'.trans (s7.perm pp)).right
                  exact ⟨rfl, hlt, _, F7, rest, s4.trans (s8.pass s4.good), fun a z => (Step.wait (Step.refl s4.good) s8 a z).trans (k4 a z), r8, p4.trans (p6.trans p7), e7⟩
              split at e5
              · rename_i E7 e7
                exact ⟨E5, F6, as6, .nx, E7, s6.good, r6, e7, fun σ3 F7 H7 as7 s7 r7 p7 => next s7 r7 p7 e5⟩
              · rename_i E7 e7
                exact ⟨E5, F6, as6, .ct, E7, s6.good, r6, e7, fun σ3 F7 H7 as7 s7 r7 p7 => next s7 r7 p7 e5⟩
              · rename_i E7 e7
                cases e5
                refine ⟨E5, F6, as6, .bk, E3, s6.good, r6, e7, fun σ3 F7 H7 as7 s7 r7 p7 => ?_⟩
                exact bk σ3 F7 H7 as7 (s6'.trans s7) r7 ((p6.trans p7).weak h1) (hv0.keep (p4.trans (p6.trans p7)) hin) s4.good
              · rename_i d E7 e7
                cases e5
                refine ⟨E5, F6, as6, .rt d, E3, s6.good, r6, e7, fun v σ3 F7 H7 bs as7 s7 r7 p7 z => ?_⟩
                exact bk v σ3 F7 H7 bs as7 (s6'.trans s7) r7 ((p6.trans p7).weak h1) (hv0.keep (p4.trans (p6.trans p7)) hin) s4.good z
              · cases e5
            · cases e5
          · have ei : i = items.length := by omega
            subst ei
            rw [List.drop_length] at e5
            cases e5
            refine .inl ⟨ok2, ?_⟩
            exact bk σ1 F4 H1 as4 (Step.refl s4.good.right') r4 (SameAt.refl _ _) (hv0.keep p4 hin) s4.good
        · cases e
      · cases e
    · cases e
  · cases e
end
end MP

/-! Mirror layer, part 5: list comprehensions. -/
namespace MP
open PySem PySem.Spec L2

theorem wipe_get (σ : Sl) : ∀ (vs : List Nat) (i : Nat), (wipe σ vs)[i]? = if i ∈ vs then (if i < σ.length then some none else none) else σ[i]?
  | [], i => by simp [wipe]
  | v :: vs, i => by
    unfold wipe
    by_cases h : v = i
    · subst h
      rw [List.getElem?_set]
      simp [wipe_length]
    · rw [List.getElem?_set_ne h, wipe_get σ vs i]
      have : i ≠ v := fun e => h e.symm
      simp [this]
theorem wipe_eq {σ σ2 : Sl} {own : List Nat} (hl : σ2.length = σ.length) (h : ∀ i, i ∉ own → σ2[i]? = σ[i]?) : wipe σ2 own = wipe σ own := by
  apply List.ext_getElem?
  intro i
  rw [wipe_get, wipe_get, hl]
  by_cases q : i ∈ own
  · simp [q]
  · simp [q, h i q]
def pinC (own : List Nat) : Pn := fun i => !own.contains i
theorem wipe_same {σ σ2 : Sl} {own : List Nat} (p : SameAt (pinC own) (wipe σ own) σ2) : wipe σ2 own = wipe σ own := by
  apply List.ext_getElem?
  intro i
  rw [wipe_get, wipe_get, p.1, wipe_length]
  by_cases q : i ∈ own
  · simp [q]
  · have : pinC own i = true := by simp [pinC, q]
    rw [p.2 i this, wipe_get]
    simp [q]
def OwnNone (own : List Nat) (E : En) : Prop := ∀ i ∈ own, E[i]? = some none ∨ E[i]? = none
theorem none_or (E : En) (i : Nat) : (E.set i none)[i]? = some none ∨ (E.set i none)[i]? = none := by
  by_cases h : i < E.length
  · exact .inl (set_none_get h)
  · exact .inr (List.getElem?_eq_none_iff.mpr (by simpa using h))
theorem kill_keep : ∀ (is : List Nat) (E : En) (i : Nat), (E[i]? = some none ∨ E[i]? = none) → (kill is E)[i]? = some none ∨ (kill is E)[i]? = none
  | [], E, i, h => h
  | j :: is, E, i, h => by
    refine kill_keep is (E.set j none) i ?_
    by_cases e : j = i
    · subst e
      exact none_or E j
    · rw [List.getElem?_set_ne e]
      exact h
theorem kill_none : ∀ (is : List Nat) (E : En), OwnNone is (kill is E)
  | [], E => fun i z => (nomatch z)
  | j :: is, E => fun i z => by
    rcases List.mem_cons.mp z with e | z
    · subst e
      exact kill_keep is _ i (none_or E i)
    · exact kill_none is (E.set j none) i z
section
variable {U : Wd} {F H : Hp} {σ : Sl} {E : En} {as : List Addr} {own : List Nat}
theorem REnv.towipe (h : REnv U F H σ E as) : ∀ {own : List Nat}, OwnNone own E → REnv U F H (wipe σ own) E as
  | [], _ => h
  | v :: vs, n => by
    have := REnv.towipe h (own := vs) fun i z => n i (.tail _ z)
    exact this.anyσ (n v (.head _)) none
theorem REnv.unwipe : ∀ {own : List Nat}, REnv U F H (wipe σ own) E as → OwnNone own E → REnv U F H σ E as
  | [], h, _ => h
  | v :: vs, h, n => by
    refine REnv.unwipe (own := vs) ?_ fun i z => n i (.tail _ z)
    by_cases hv : v < (wipe σ vs).length
    · have this : REnv U F H (((wipe σ vs).set v none).set v ((wipe σ vs)[v])) E as := h.anyσ (n v (.head _)) ((wipe σ vs)[v])
      rw [List.set_set, set_self (List.getElem?_eq_getElem hv)] at this
      exact this
    · have e : wipe σ (v :: vs) = wipe σ vs := by
        show (wipe σ vs).set v none = _
        exact List.set_eq_of_length_le (by omega)
      rw [e] at h
      exact h
theorem REnv.wipeKill (own : List Nat) (h : REnv U F H σ E as) : ∃ a0 rest, as.Perm (a0 ++ rest) ∧ REnv U F H (wipe σ own) (MP.kill own E) rest := by
  obtain ⟨a0, rest, p, r⟩ := h.kill own
  exact ⟨a0, rest, p, r.towipe (kill_none own E)⟩
end
def backF : List Nat → En → En → En
  | [], _, E => E
  | i :: is, E0, E => match E0[i]? with
    | some (some d) => backF is E0 (if d.frozen = true then E.set i (some d) else E)
    | _ => backF is E0 E
theorem backF_ok {U : Wd} {F F' H H' : Hp} {σ : Sl} {E0 : En} {as0 : List Addr} (r0 : REnv U F H σ E0 as0) (hF : Fle F F') : ∀ (own : List Nat) {E : En} {as : List Addr}, REnv U F' H' σ E as → ∃ a0 rest, as.Perm (a0 ++ rest) ∧ REnv U F' H' σ (backF own E0 E) rest
  | [], E, as, r => ⟨[], as, List.Perm.refl _, r⟩
  | i :: is, E, as, r => by
    unfold backF
    split
    · rename_i d ed
      by_cases hf : d.frozen = true
      · rw [if_pos hf]
        obtain ⟨v, a1, _, hv, w, _, _⟩ := r0.take ed
        have := w.nil_of hf
        subst this
        obtain ⟨b0, rest, p, r1⟩ := r.drop i
        by_cases hi : i < E.length
        · have r2 := r1.putS (set_none_get hi) hv (w.mono0 (H' := H') hF)
          rw [List.set_set] at r2
          obtain ⟨a0, rest', p', r'⟩ := backF_ok r0 hF is r2
          exact ⟨b0 ++ a0, rest', p.trans (by rw [List.append_assoc]; exact p'.append_left b0), r'⟩
        · have l := r.len
          have : σ[i]? = none := List.getElem?_eq_none_iff.mpr (by omega)
          rw [this] at hv
          cases hv
      · rw [if_neg hf]
        exact backF_ok r0 hF is r
    · exact backF_ok r0 hF is r

def cL (g : Gm) (t : Tx) (e : Ex) (own : List Nat) : List D → En → Option (List D × En)
  | [], E => some ([], E)
  | x :: xs, E => match g x E with
    | some E1 => match t E1 with
      | some (true, E2) => match e E2 with
        | some (d, E3) => match cL g t e own xs (kill own E3) with
          | some (ds, E4) => some (d :: ds, E4)
          | none => none
        | none => none
      | some (false, E2) => cL g t e own xs (kill own E2)
      | none => none
    | none => none
def xComp (m : Hx) (mk : Mk) (own : List Nat) (g : Gm) (t : Tx) (e : Ex) : Ex := fun E => match m E with
  | some (hs, E1) => match takeL hs E1 with
    | some (ds, E2) => match mk ds with
      | some items => match cL g t e own items (kill own E2) with
        | some (rs, E3) => if lineOk rs.length = true then some (.lst true rs, putL hs ds (ds.map some) (backF own E2 E3)) else none
        | none => none
      | none => none
    | none => none
  | none => none
theorem Step.writeIn {F H : Hp} {as : List Addr} {p : Addr} {o : HO} (g : Good F H as) (hp : p ∈ as) : Step F H as F (upd H p o) as := by
  obtain ⟨a, b, rfl⟩ := List.append_of_mem hp
  have pm : (a ++ p :: b).Perm (p :: (a ++ b)) := List.perm_middle
  exact ((Step.write (g.perm pm)).perm pm.symm).permS pm.symm
theorem comp_reads {U : Wd} {m : Hx} {mk : Mk} {own : List Nat} {g : Gm} {t : Tx} {e : Ex} {σ : Sl} {H : Hp} {Q : VK} (q : tM U (xComp m mk own g t e) σ H Q) : tLc (tI U m mk) (tG U (pinC own) g) (tT U t) (tM U e) own σ H Q := by
  obtain ⟨E, F, as, d, E', gd, r, e0, q⟩ := q
  unfold xComp at e0
  split at e0
  · rename_i hs E1 e1
    split at e0
    · rename_i ds E2 e2
      split at e0
      · rename_i items e3
        split at e0
        · rename_i rs E3 e4
          split at e0
          · rename_i hl
            cases e0
            have hl : rs.length ≤ sizeLine := of_decide_eq_true hl
            refine ⟨E, F, as, hs, E1, ds, E2, items, gd, r, e1, e2, e3, fun J vs F0 H0 ws as0 s0 r0 l0 hv0 ok Dp hD => ?_⟩
            have ne0 : ∀ a ∈ ws ++ as0, a ≠ Dp := fun a z h => s0.good.on a z (h ▸ hD)
            obtain ⟨a0, rest, p0, r1⟩ := r0.wipeKill own
            -- the state between turns
            let St (i : Nat) (H' : Hp) : Prop := ∃ E4 F4 as4 acc accd accs rs', Step F0 H0 (ws ++ as0) F4 H' (((Dp :: accs) ++ ws) ++ as4) ∧ (∀ a ∈ ws, H' a = H0 a) ∧ H' Dp = some (.lst acc) ∧ RpL U F4 H' acc accd accs ∧
              REnv U F4 H' (wipe σ own) E4 as4 ∧ OwnNone own E4 ∧ cL g t e own (items.drop i) E4 = some (rs', E3) ∧ accd ++ rs' = rs
            have st0 : St 0 (upd H0 Dp (.lst [])) := by
              have al := (Step.alloc (o := .lst []) s0.good.zero hD).frame s0.good
              have pr : (ws ++ as0 ++ [Dp]).Perm (a0 ++ ((Dp :: []) ++ ws ++ rest)) := by
                refine List.perm_append_comm.trans ?_
                show (Dp :: (ws ++ as0)).Perm _
                refine List.Perm.trans (l₂ := Dp :: (a0 ++ (ws ++ rest))) (List.Perm.cons Dp ?_) ?_
                · refine (p0.append_left ws).trans ?_
                  rw [← List.append_assoc, ← List.append_assoc]
                  exact List.perm_append_comm.append_right rest
                · exact (List.perm_middle (a := Dp) (l₁ := a0) (l₂ := ws ++ rest)).symm
              have al2 := (al.perm pr).right
              refine ⟨kill own E2, F0, rest, [], [], [], rs, al2, fun a z => upd_ne (ne0 a (List.mem_append_left _ z)), upd_same, .nil, ?_, kill_none own E2, by simpa using e4, rfl⟩
              exact r1.mono (Fle.refl _) fun a z => upd_ne (ne0 a (List.mem_append_right _ (p0.mem_iff.mpr (List.mem_append_right _ z))))
            refine ⟨fun i n H' => n = items.length - i ∧ i ≤ items.length ∧ St i H', ⟨items.length, rfl, Nat.zero_le _, st0⟩, ?_⟩
            rintro i n H1 ⟨rfl, hi, E4, F4, as4, acc, accd, accs, rs', s4, k4, hDp, lacc, r4, on4, e5, er⟩
            obtain ⟨ok1, ok2⟩ := ok F4 H1 s4.ext s4.good.zero k4
            have dis : ∀ b ∈ (Dp :: accs) ++ ws, b ∉ as4 := fun b z h => (List.nodup_append.mp s4.good.nd).2.2 b z b h rfl
            by_cases hlt : i < items.length
            · rw [List.drop_eq_getElem_cons hlt] at e5
              obtain ⟨go, yl⟩ := ok1 i _ (List.getElem?_eq_getElem hlt)
              refine .inr ⟨go, St (i + 1), fun H' z => ⟨items.length - (i + 1), by omega, rfl, hlt, z⟩, fun x Hx hy => ?_⟩
              obtain ⟨Fx, sx, rx⟩ := yl x Hx hy
              obtain ⟨sx3, r5⟩ := fin (Step.refl s4.good.right') r4 sx
              -- how a turn ends
              have turn : ∀ {σ2 : Sl} {F7 H7 : Hp} {as7 : List Addr} {E7 : En}, Step F4 H1 as4 F7 H7 as7 → REnv U F7 H7 σ2 E7 as7 → wipe σ2 own = wipe σ own → cL g t e own (items.drop (i + 1)) (kill own E7) = some (rs', E3) → St (i + 1) H7 := fun {σ2 F7 H7 as7 E7} s7 r7 wq e7 => by
                obtain ⟨a0, rest, pp, r8⟩ := r7.wipeKill own
                rw [wq] at r8
                have s8 : Step F4 H1 as4 F7 H7 rest := (s7.perm pp).right
                have kk : ∀ b ∈ (Dp :: accs) ++ ws, H7 b = H1 b := Step.wait (Step.refl s4.good) s8
                refine ⟨kill own E7, F7, rest, acc, accd, accs, rs', s4.seq s8, fun a z => (kk a (List.mem_append_right _ z)).trans (k4 a z), (kk Dp (List.mem_append_left _ (.head _))).trans hDp, lacc.mono s7.ext fun a z => kk a (List.mem_append_left _ (.tail _ z)), r8, kill_none own E7, e7, er⟩
              unfold cL at e5
              split at e5
              · rename_i E5 e6
                refine ⟨E4, Fx, [], as4, items[i], E5, sx3.good, r5, rx, e6, fun σ2 F6 H6 as6 s6 r6 p6 => ?_⟩
                have s6' : Step F4 H1 as4 F6 H6 as6 := sx3.trans s6
                have wq := wipe_same p6
                refine ⟨wq, ?_⟩
                split at e5
                · rename_i E6 e7
                  refine ⟨E5, F6, as6, true, E6, s6.good, r6, e7, fun F7 H7 as7 s7 r7 => ?_⟩
                  show (if true = true then _ else _)
                  rw [if_pos rfl]
                  split at e5
                  · rename_i dd E7 e8
                    split at e5
                    · rename_i ds' E8 e9
                      cases e5
                      refine ⟨E6, F7, as7, dd, E7, s7.good, r7, e8, fun v F8 H8 bs as8 s8 r8 w8 => ?_⟩
                      have s8' : Step F4 H1 as4 F8 H8 (bs ++ as8) := (s6'.trans s7).trans s8
                      have kk : ∀ b ∈ (Dp :: accs) ++ ws, H8 b = H1 b := Step.wait (Step.refl s4.good) s8'
                      have hD8 : H8 Dp = some (.lst acc) := (kk Dp (List.mem_append_left _ (.head _))).trans hDp
                      have s9 := s4.seq s8'
                      refine ⟨acc, hD8, ?_, ?_⟩
                      · rw [lacc.len]
                        have : rs.length = accd.length + (ds'.length + 1) := by rw [← er, List.length_append, List.length_cons]
                        omega
                      · obtain ⟨a1, rest, pp, r10⟩ := r8.wipeKill own
                        rw [wq] at r10
                        have hin : Dp ∈ ((Dp :: accs) ++ ws) ++ (bs ++ as8) := List.mem_append_left _ (List.mem_append_left _ (.head _))
                        have s10 := s9.trans (Step.writeIn (o := .lst (acc ++ [v])) s9.good hin)
                        have nd := s9.good.nd
                        have ndD : ∀ b, b ∈ accs ++ ws ++ (bs ++ as8) → b ≠ Dp := fun b z h => by
                          have := (List.nodup_cons.mp (show (Dp :: (accs ++ ws ++ (bs ++ as8))).Nodup by simpa using nd)).1
                          exact this (h ▸ z)
                        have pr : (((Dp :: accs) ++ ws) ++ (bs ++ as8)).Perm (a1 ++ (((Dp :: (accs ++ bs)) ++ ws) ++ rest)) := by
                          show (Dp :: ((accs ++ ws) ++ (bs ++ as8))).Perm _
                          refine List.Perm.trans (l₂ := Dp :: (a1 ++ (((accs ++ bs) ++ ws) ++ rest))) (List.Perm.cons Dp ?_) (List.perm_middle (a := Dp) (l₁ := a1) (l₂ := ((accs ++ bs) ++ ws) ++ rest)).symm
                          refine List.Perm.trans (l₂ := (accs ++ ws) ++ (bs ++ (a1 ++ rest))) ((pp.append_left bs).append_left _) ?_
                          refine List.Perm.trans (l₂ := ((accs ++ bs) ++ ws) ++ (a1 ++ rest)) ?_ ?_
                          · rw [← List.append_assoc]
                            refine List.Perm.append_right _ ?_
                            rw [List.append_assoc, List.append_assoc]
                            exact List.perm_append_comm.append_left accs
                          · rw [← List.append_assoc, ← List.append_assoc]
                            exact List.perm_append_comm.append_right rest
                        refine ⟨kill own E7, F8, rest, acc ++ [v], accd ++ [dd], accs ++ bs, ds', (s10.perm pr).right, fun a z => ?_, upd_same, ?_, ?_, kill_none own E7, e9, by rw [← er]; simp⟩
                        · rw [upd_ne (ndD a (List.mem_append_left _ (List.mem_append_right _ z)))]
                          exact (kk a (List.mem_append_right _ z)).trans (k4 a z)
                        · refine RpL.app (lacc.mono s8'.ext fun a z => ?_) (RpL.one (w8.mono (Fle.refl _) fun a z => ?_))
                          · rw [upd_ne (ndD a (List.mem_append_left _ (List.mem_append_left _ z)))]
                            exact kk a (List.mem_append_left _ (.tail _ z))
                          · exact upd_ne (ndD a (List.mem_append_right _ (List.mem_append_left _ z)))
                        · refine r10.mono (Fle.refl _) fun a z => upd_ne (ndD a (List.mem_append_right _ (List.mem_append_right _ (pp.mem_iff.mpr (List.mem_append_right _ z)))))
                    · cases e5
                  · cases e5
                · rename_i E6 e7
                  refine ⟨E5, F6, as6, false, E6, s6.good, r6, e7, fun F7 H7 as7 s7 r7 => ?_⟩
                  show (if false = true then _ else _)
                  rw [if_neg Bool.false_ne_true]
                  exact turn (s6'.trans s7) r7 wq e5
                · cases e5
              · cases e5
            · have ei : i = items.length := by omega
              subst ei
              rw [List.drop_length] at e5
              cases e5
              refine .inl ⟨ok2, ?_⟩
              rw [List.append_nil] at er
              subst er
              have r6 := r4.unwipe on4
              obtain ⟨b0, rest', p6, r7⟩ := backF_ok r0 s4.ext own r6
              have l4 : RpL U F4 H1 vs ds ws := l0.mono s4.ext k4
              obtain ⟨c0, as9, p9, r9⟩ := putL_ok (ds := ds) hv0 (RpE.ofL0 l4) r7
              refine q (.ref Dp) F4 H1 (Dp :: accs) as9 ?_ r9 (.lstO hDp lacc)
              have pr : (((Dp :: accs) ++ ws) ++ as4).Perm ((b0 ++ c0) ++ ((Dp :: accs) ++ as9)) := by
                refine List.Perm.trans (l₂ := (Dp :: accs) ++ (ws ++ (b0 ++ rest'))) (by rw [List.append_assoc]; exact (p6.append_left ws).append_left _) ?_
                refine List.Perm.trans (l₂ := (Dp :: accs) ++ (b0 ++ (ws ++ rest'))) (List.Perm.append_left _ (by
                  rw [← List.append_assoc, ← List.append_assoc]
                  exact List.perm_append_comm.append_right rest')) ?_
                refine List.Perm.trans (l₂ := (Dp :: accs) ++ (b0 ++ (c0 ++ as9))) ((p9.append_left b0).append_left _) ?_
                rw [← List.append_assoc b0, ← List.append_assoc, ← List.append_assoc (b0 ++ c0)]
                exact List.perm_append_comm.append_right as9
              exact (s0.trans (s4.perm pr)).right
          · cases e0
        · cases e0
      · cases e0
    · cases e0
  · cases e0
def tYesT : Tx := fun E => some (true, E)
section
variable {X : Cx} {elt tg iter : Expr} {scope : Scope} {own : List (Str × Nat)} {pos spos : Pos} {m : Hx} {mk : Mk} {g : Gm} {t : Tx} {e : Ex} {ifs : List Expr}
theorem mpts_nil : PTs X [] (tT (ux X) tYesT) := ⟨fun pins s σ H Q I q => pts_nil.run pins s σ H Q I (by
  obtain ⟨E, F, as, b, E', g, r, e, q⟩ := q
  cases e
  exact q F H as (Step.refl g) r)⟩
theorem mpts_one {c : Expr} (h : PT X c (tT (ux X) t)) : PTs X [c] (tT (ux X) t) := pts_one h
theorem mv_lc (hc : X.calm = true) (hN : X.N.Nodup) (hi : PI X tg iter (tI (ux X) m mk)) (ok : BlkOk X.N X.env.scope scope own)
    (hg : ∀ (s : Shared) (H : Hp) (C : Addr) (cl : List (Str × Addr)) (fp : List Addr), PG (X.blk s H scope (compEnvC scope cl C X.env) fp) tg (tG (ux X) (pinC (own.map (·.2))) g))
    (ht : ∀ (s : Shared) (H : Hp) (C : Addr) (cl : List (Str × Addr)) (fp : List Addr), PTs (X.blk s H scope (compEnvC scope cl C X.env) fp) ifs (tT (ux X) t))
    (he : ∀ (s : Shared) (H : Hp) (C : Addr) (cl : List (Str × Addr)) (fp : List Addr), PE (X.blk s H scope (compEnvC scope cl C X.env) fp) elt (tM (ux X) e)) (hs : ∀ x, foldedSetIterable iter X.env x = pure x := by intro _; rfl) :
    PE X (.ListComp elt [⟨tg, iter, ifs, 0⟩] scope pos) (tM (ux X) (xComp m mk (own.map (·.2)) g t e)) := pe_mono (pe_lc hc hN hi ok hg ht he hs) fun _ _ _ q => comp_reads q
theorem ms_setLc {i : Nat} {y : Str} {py : Pos} {pin : Pn} (hp : pin i = false) (hc : X.calm = true) (hN : X.N.Nodup) (hy : X.N[i]? = some y) (hyl : X.env.scope.names.lookup y = some .local)
    (hsw : swapsWith (.ListComp elt [⟨tg, iter, ifs, 0⟩] scope pos) (some (.Name y py)) spos.line X.env = pure true) (hi : PI X tg iter (tI (ux X) m mk)) (ok : BlkOk X.N X.env.scope scope own)
    (hg : ∀ (s : Shared) (H : Hp) (C : Addr) (cl : List (Str × Addr)) (fp : List Addr), PG (X.blk s H scope (compEnvC scope cl C X.env) fp) tg (tG (ux X) (pinC (own.map (·.2))) g))
    (ht : ∀ (s : Shared) (H : Hp) (C : Addr) (cl : List (Str × Addr)) (fp : List Addr), PTs (X.blk s H scope (compEnvC scope cl C X.env) fp) ifs (tT (ux X) t))
    (he : ∀ (s : Shared) (H : Hp) (C : Addr) (cl : List (Str × Addr)) (fp : List Addr), PE (X.blk s H scope (compEnvC scope cl C X.env) fp) elt (tM (ux X) e)) (hs : ∀ x, foldedSetIterable iter X.env x = pure x := by intro _; rfl) :
    PS X (.Assign [.Name y py] (.ListComp elt [⟨tg, iter, ifs, 0⟩] scope pos) spos) (tS (ux X) pin (sAsg (xComp m mk (own.map (·.2)) g t e) (gSet i))) :=
  ms_asg' (ps_setLc hc hN hy hyl hsw hi ok hg ht he hs) (fun _ _ _ q => comp_reads q) fun v σ H Q q => by
    obtain ⟨E, F, bs, as, d, E', g, rE, w, e, q⟩ := q
    unfold gSet at e
    split at e
    · rename_i hi
      cases e
      obtain ⟨a0, rest, p, r1⟩ := rE.store hi w
      have p2 : (bs ++ as).Perm (a0 ++ (bs ++ rest)) := (p.append_left bs).trans (by
        rw [← List.append_assoc, ← List.append_assoc]
        exact List.perm_append_comm.append_right rest)
      exact q _ F H (bs ++ rest) (((Step.refl g).perm p2).right) r1 (SameAt.set hp)
    · cases e
end
end MP

/-! Mirror layer, part 6: operators and comparisons by value. -/
namespace MP
open PySem PySem.Spec L2

/-! ### flat data -/
def D.flat : D → Bool
  | .non => true
  | .bl _ => true
  | .int _ => true
  | .str _ => true
  | _ => false
def D.toV : D → V
  | .bl b => .bl b
  | .int i => .int i
  | .str s => .str s
  | _ => .non
section
variable {U : Wd} {F H : Hp} {v : V} {d : D} {as : List Addr}
theorem Rp.flat (h : Rp U F H v d as) (f : d.flat = true) : v = d.toV ∧ as = [] := by
  cases h with
  | non => exact ⟨rfl, rfl⟩
  | bl b => exact ⟨rfl, rfl⟩
  | int i => exact ⟨rfl, rfl⟩
  | str s => exact ⟨rfl, rfl⟩
  | _ => cases f
theorem flatV_of {d : D} (f : d.flat = true) : flatV d.toV = true := by
  cases d with
  | non => rfl
  | bl b => rfl
  | int i => rfl
  | str s => rfl
  | _ => cases f
theorem Rp.ofFlat {d : D} (f : d.flat = true) : Rp U F H d.toV d [] := by
  cases d with
  | non => exact .non
  | bl b => exact .bl b
  | int i => exact .int i
  | str s => exact .str s
  | _ => cases f
theorem RpL.flat : ∀ {vs : List V} {ds : List D} {as : List Addr}, RpL U F H vs ds as → ds.all D.flat = true → vs = ds.map D.toV
  | _, _, _, .nil, _ => rfl
  | _, _, _, .cons h t, f => by
    rw [List.all_cons, Bool.and_eq_true] at f
    rw [List.map_cons, ← (h.flat f.1).1, ← t.flat f.2]
theorem all_flatV {ds : List D} (f : ds.all D.flat = true) : (ds.map D.toV).all flatV = true := by
  rw [List.all_map]
  rw [List.all_eq_true] at f ⊢
  exact fun d z => flatV_of (f d z)
end

/-! ### results -/
section
variable {U : Wd} {F H : Hp} {Q : VK} {vs : List V} {ds : List D}
theorem new_list (g : Good F H []) (l : RpL U F H vs ds []) (k : ∀ v F' H' bs, Step F H [] F' H' bs → Rp U F' H' v (.lst true ds) bs → Q v H') : ∀ p, H p = none → Q (.ref p) (upd H p (.lst vs)) := fun p hp =>
  k (.ref p) F _ [p] (Step.alloc g hp) (.lstO upd_same (l.mono0 (Fle.refl _)))
theorem new_tup (g : Good F H []) (l : RpL U F H vs ds []) (k : ∀ v F' H' bs, Step F H [] F' H' bs → Rp U F' H' v (.tup false ds) bs → Q v H') : ∀ p, H p = none → Q (.ref p) (upd H p (.tup vs)) := fun p hp => by
  have t := Step.allocF (o := .tup vs) g hp
  exact k (.ref p) _ _ [] t (.tupS (.inl (.inl upd_same)) (l.mono0 t.ext))
end
/-- tracked or written list with frozen items -/
theorem lst0 {U : Wd} {F H : Hp} {v : V} {o : Bool} {ds : List D} {as : List Addr} (g : Good F H []) (h : Rp U F H v (.lst o ds) as) (hf : frozenL ds = true) : ∃ a vs, v = .ref a ∧ H a = some (.lst vs) ∧ RpL U F H vs ds [] := by
  obtain ⟨a, vs, e, hq, bs, l⟩ := lst_now g.le h
  exact ⟨a, vs, e, hq, l.frozen0 hf⟩
theorem tup0 {U : Wd} {F H : Hp} {v : V} {o : Bool} {ds : List D} {as : List Addr} (g : Good F H []) (h : Rp U F H v (.tup o ds) as) (hf : frozenL ds = true) : ∃ a vs, v = .ref a ∧ SqT U.K H a vs ∧ RpL U F H vs ds [] := by
  obtain ⟨a, vs, e, hq, bs, l⟩ := tup_now g.le h
  exact ⟨a, vs, e, hq, l.frozen0 hf⟩
theorem tupS0 {U : Wd} {F H : Hp} {v : V} {ds : List D} {as : List Addr} (g : Good F H []) (h : Rp U F H v (.tup false ds) as) : ∃ a vs, v = .ref a ∧ SqT U.K H a vs ∧ RpL U F H vs ds [] ∧ as = [] := by
  cases h with
  | tupS h l => exact ⟨_, _, rfl, g.le.seqT h, l, rfl⟩

/-! ### + -/
def addD : D → D → Option D
  | .int i, .int j => some (.int (i + j))
  | .str a, .str b => if lineOk (a.length + b.length) = true then some (.str (a ++ b)) else none
  | .lst _ xs, .lst _ ys => if (frozenL xs && frozenL ys && lineOk (xs.length + ys.length)) = true then some (.lst true (xs ++ ys)) else none
  | .tup false xs, .tup false ys => if lineOk (xs.length + ys.length) = true then some (.tup false (xs ++ ys)) else none
  | .int i, .bl b => some (.int (i + PyProof.Rows.b2i b))
  | _, _ => none
def rAddInt : R2 := rI0 fun i j => .int (i + j)
def rAddStr : R2 := fun x y H Q => ∃ i j, x = .str i ∧ y = .str j ∧ i.length + j.length ≤ sizeLine ∧ Q (.str (i ++ j)) H
def rAddIB : R2 := fun x y H Q => ∃ i k, x = .int i ∧ y = .bl k ∧ Q (.int (i + PyProof.Rows.b2i k)) H
def rAdd (K : PySem.W.Frag) : R2 := fun x y H Q => rAddInt x y H Q ∨ rAddStr x y H Q ∨ rCat x y H Q ∨ rCatA K x y H Q ∨ rAddIB x y H Q
theorem op_addD {X : Cx} : OpR X (binaryOp .Add) (rAdd X.K) := OpR.or op_add (OpR.or op_add_str (OpR.or op_cat (OpR.or op_catA op_add_ib)))
theorem ok_add {U : Wd} : Ok2 U (rAdd U.K) addD := fun F H x y d1 d2 d c1 c2 Q g w1 w2 e k => by
  unfold addD at e
  split at e
  · cases e
    obtain ⟨rfl, _⟩ := rp_int w1
    obtain ⟨rfl, _⟩ := rp_int w2
    exact .inl ⟨_, _, rfl, rfl, same_ g k (.int _)⟩
  · split at e
    · rename_i h
      cases e
      obtain ⟨rfl, _⟩ := rp_str w1
      obtain ⟨rfl, _⟩ := rp_str w2
      exact .inr (.inl ⟨_, _, rfl, rfl, of_decide_eq_true h, same_ g k (.str _)⟩)
    · cases e
  · split at e
    · rename_i h
      cases e
      simp only [Bool.and_eq_true] at h
      obtain ⟨⟨h1, h2⟩, h3⟩ := h
      obtain ⟨a, vs, rfl, e1, l1⟩ := lst0 g w1 h1
      obtain ⟨b, us, rfl, e2, l2⟩ := lst0 g w2 h2
      exact .inr (.inr (.inl ⟨a, b, vs, us, rfl, rfl, e1, e2, by rw [l1.len, l2.len]; exact of_decide_eq_true h3, new_list g (l1.app0 l2) k⟩))
    · cases e
  · split at e
    · rename_i xs ys h
      cases e
      obtain ⟨a, vs, rfl, e1, l1, _⟩ := tupS0 g w1
      obtain ⟨b, us, rfl, e2, l2, _⟩ := tupS0 g w2
      refine .inr (.inr (.inr (.inl ⟨a, b, vs, us, rfl, rfl, e1, e2, by rw [l1.len, l2.len]; exact of_decide_eq_true h, fun z => ?_, fun z1 z2 => ?_, fun z1 z2 => new_tup g (l1.app0 l2) k⟩)))
      · subst z
        have : xs = [] := List.eq_nil_of_length_eq_zero (by rw [← l1.len]; rfl)
        subst this
        rename_i c2 _
        cases w2 with
        | tupS w2 l => exact same_ g k (.tupS w2 l)
      · subst z2
        have : ys = [] := List.eq_nil_of_length_eq_zero (by rw [← l2.len]; rfl)
        subst this
        rw [List.append_nil] at k
        cases w1 with
        | tupS w1 l => exact same_ g k (.tupS w1 l)
    · cases e
  · cases e
    obtain ⟨rfl, _⟩ := rp_int w1
    obtain ⟨rfl, _⟩ := rp_bl w2
    exact .inr (.inr (.inr (.inr ⟨_, _, rfl, rfl, same_ g k (.int _)⟩)))
  · cases e

/-! ### other arithmetic -/
def subD : D → D → Option D
  | .int i, .int j => some (.int (i - j))
  | _, _ => none
theorem ok_sub {U : Wd} : Ok2 U (rI0 fun i j => .int (i - j)) subD := fun F H x y d1 d2 d c1 c2 Q g w1 w2 e k => by
  unfold subD at e
  split at e
  · cases e
    obtain ⟨rfl, _⟩ := rp_int w1
    obtain ⟨rfl, _⟩ := rp_int w2
    exact ⟨_, _, rfl, rfl, same_ g k (.int _)⟩
  · cases e
def in64 (i : Int) : Bool := decide (-(2 ^ 64) < i ∧ i < 2 ^ 64)
def mulOkS (x : Str) (n : Int) : Bool := decide (-(2 ^ 63) ≤ n ∧ n < 2 ^ 63) && decide (x.length * n.toNat ≤ 16777216)
def mulD : D → D → Option D
  | .int i, .int j => if (in64 i || in64 j) = true then some (.int (i * j)) else none
  | .str s, .int n => if mulOkS s n = true then some (.str (Txt.mul s n)) else none
  | .lst _ xs, .int n => if (frozenL xs && decide (-(2 ^ 63) ≤ n ∧ n < 2 ^ 63) && lineOk (xs.length * n.toNat)) = true then some (.lst true (List.replicate n.toNat xs).flatten) else none
  | _, _ => none
theorem mulOk_of {x : Str} {n : Int} (h : mulOkS x n = true) : MulOk x n := by
  unfold mulOkS at h
  simp only [Bool.and_eq_true, decide_eq_true_eq] at h
  obtain ⟨⟨h1, h2⟩, h3⟩ := h
  refine ⟨?_, fun a b => ?_, fun a b => ?_⟩
  · rw [Bool.or_eq_false_iff, decide_eq_false_iff_not, decide_eq_false_iff_not]
    exact ⟨by omega, by omega⟩
  · have hn : 0 < n := by omega
    have h4 : (x.length : Int) * n ≤ 16777216 := by
      have q : ((x.length * n.toNat : Nat) : Int) ≤ ((16777216 : Nat) : Int) := Int.ofNat_le.mpr h3
      rw [Int.natCast_mul, Int.toNat_of_nonneg (by omega)] at q
      exact q
    have h5 : (x.length : Int) ≤ (2 ^ 63 - 1) / n := by
      rw [Int.le_ediv_iff_mul_le hn]
      omega
    omega
  · have e : sizeLine = 16777216 := by decide
    unfold Builtin.Str.tooLong
    exact decide_eq_false (by omega)
def rMulStr : R2 := fun x y H Q => ∃ s n, x = .str s ∧ y = .int n ∧ MulOk s n ∧ Q (.str (Txt.mul s n)) H
theorem op_mul_str {X : Cx} : OpR X (binaryOp .Mult) rMulStr := by
  intro pins s σ H x y v u Q I rx ry h
  obtain ⟨z, n, rfl, rfl, hok, q⟩ := h
  obtain ⟨t, rfl⟩ := rx
  obtain ⟨t', rfl⟩ := ry
  exact SB.mul hok fun t' k => ⟨.str _, H, I.tok _, ⟨_, rfl⟩, q⟩
def rMulInt : R2 := rI CMul fun i j => .int (i * j)
def rMul : R2 := fun x y H Q => rMulInt x y H Q ∨ rMulStr x y H Q ∨ rRep x y H Q
theorem op_mulD {X : Cx} : OpR X (binaryOp .Mult) rMul := OpR.or op_mul (OpR.or op_mul_str op_rep)
theorem RpL.rep {U : Wd} {F H : Hp} {vs : List V} {ds : List D} (l : RpL U F H vs ds []) : ∀ n : Nat, RpL U F H (List.replicate n vs).flatten (List.replicate n ds).flatten []
  | 0 => .nil
  | n + 1 => by
    rw [List.replicate_succ, List.replicate_succ, List.flatten_cons, List.flatten_cons]
    exact l.app0 (RpL.rep l n)
theorem ok_mul {U : Wd} : Ok2 U rMul mulD := fun F H x y d1 d2 d c1 c2 Q g w1 w2 e k => by
  unfold mulD at e
  split at e
  · split at e
    · rename_i h
      cases e
      obtain ⟨rfl, _⟩ := rp_int w1
      obtain ⟨rfl, _⟩ := rp_int w2
      refine .inl ⟨_, _, rfl, rfl, ?_, same_ g k (.int _)⟩
      rcases Bool.or_eq_true_iff.mp h with h | h
      · exact .inl (of_decide_eq_true h)
      · exact .inr (of_decide_eq_true h)
    · cases e
  · split at e
    · rename_i h
      cases e
      obtain ⟨rfl, _⟩ := rp_str w1
      obtain ⟨rfl, _⟩ := rp_int w2
      exact .inr (.inl ⟨_, _, rfl, rfl, mulOk_of h, same_ g k (.str _)⟩)
    · cases e
  · split at e
    · rename_i h
      cases e
      simp only [Bool.and_eq_true, decide_eq_true_eq] at h
      obtain ⟨⟨h1, h2⟩, h3⟩ := h
      obtain ⟨a, vs, rfl, e1, l1⟩ := lst0 g w1 h1
      obtain ⟨rfl, _⟩ := rp_int w2
      exact .inr (.inr ⟨a, _, vs, rfl, rfl, e1, h2.1, h2.2, by rw [l1.len]; exact of_decide_eq_true h3, new_list g (l1.rep _) k⟩)
    · cases e
  · cases e
def modD : D → D → Option D
  | .int i, .int j => if 0 < j then some (.int (i % j)) else none
  | _, _ => none
theorem ok_mod {U : Wd} : Ok2 U (rI (fun _ j => 0 < j) fun i j => .int (i % j)) modD := fun F H x y d1 d2 d c1 c2 Q g w1 w2 e k => by
  unfold modD at e
  split at e
  · split at e
    · rename_i h
      cases e
      obtain ⟨rfl, _⟩ := rp_int w1
      obtain ⟨rfl, _⟩ := rp_int w2
      exact ⟨_, _, rfl, rfl, h, same_ g k (.int _)⟩
    · cases e
  · cases e
def divD : D → D → Option D
  | .int i, .int j => if 0 < j ∧ j < 1073741824 then some (.int (i / j)) else none
  | _, _ => none
theorem ok_div {U : Wd} : Ok2 U (rI CDiv fun i j => .int (i / j)) divD := fun F H x y d1 d2 d c1 c2 Q g w1 w2 e k => by
  unfold divD at e
  split at e
  · split at e
    · rename_i h
      cases e
      obtain ⟨rfl, _⟩ := rp_int w1
      obtain ⟨rfl, _⟩ := rp_int w2
      exact ⟨_, _, rfl, rfl, h, same_ g k (.int _)⟩
    · cases e
  · cases e
def powOk (i j : Int) : Bool := decide (0 ≤ j ∧ j ≤ 1000000 ∧ i.natAbs < 2 ^ 64)
def powD : D → D → Option D
  | .int i, .int j => if powOk i j = true then some (.int (i ^ j.toNat)) else none
  | _, _ => none
theorem ok_pow {U : Wd} : Ok2 U (rI CPow fun i j => .int (i ^ j.toNat)) powD := fun F H x y d1 d2 d c1 c2 Q g w1 w2 e k => by
  unfold powD at e
  split at e
  · split at e
    · rename_i h
      cases e
      obtain ⟨rfl, _⟩ := rp_int w1
      obtain ⟨rfl, _⟩ := rp_int w2
      exact ⟨_, _, rfl, rfl, (show 0 ≤ _ ∧ _ ≤ 1000000 ∧ _ < 2 ^ 64 from of_decide_eq_true h), same_ g k (.int _)⟩
    · cases e
  · cases e
def negD : D → Option D
  | .int i => some (.int (-i))
  | _ => none
theorem ok_neg {U : Wd} : Ok1 U (rU fun i => .int (-i)) negD := fun F H x d1 d c1 Q g w1 e k => by
  unfold negD at e
  split at e
  · cases e
    obtain ⟨rfl, _⟩ := rp_int w1
    exact ⟨_, rfl, same_ g k (.int _)⟩
  · cases e

/-! ### data as the library's -/
mutual
def D.toP : D → PyData
  | .non => .none
  | .bl b => .bool b
  | .int i => .int i
  | .str s => .str s
  | .scr ns => .list (ns.map PyData.int)
  | .tup _ xs => .tuple (toPL xs)
  | .lst _ xs => .list (toPL xs)
  | .dct _ _ _ => .dict []
def toPL : List D → List PyData
  | [] => []
  | x :: xs => x.toP :: toPL xs
end
theorem toPL_map : ∀ xs : List D, toPL xs = xs.map D.toP
  | [] => rfl
  | x :: xs => by rw [toPL, toPL_map xs]; rfl
mutual
def D.plain : D → Bool
  | .tup _ xs => plainL xs
  | .lst _ xs => plainL xs
  | .dct _ _ _ => false
  | .non => true
  | .bl _ => true
  | .int _ => true
  | .str _ => true
  | .scr _ => true
def plainL : List D → Bool
  | [] => true
  | x :: xs => x.plain && plainL xs
end
section
variable {U : Wd} {F H : Hp}
theorem dp_ints {K : PySem.W.Frag} : ∀ ns : List Int, DpAll K H (ns.map V.int) (ns.map PyData.int)
  | [] => .nil
  | n :: ns => .cons (.int n) (dp_ints ns)
mutual
theorem Rp.dp (g : Fle F H) : ∀ {v : V} {d : D} {as : List Addr}, Rp U F H v d as → d.plain = true → Dp U.K H v d.toP
  | _, _, _, .non, _ => .non
  | _, _, _, .bl b, _ => .bl b
  | _, _, _, .int i, _ => .int i
  | _, _, _, .str s, _ => .str s
  | _, _, _, .scr h, _ => .lst (g.seqL h) (dp_ints _)
  | _, _, _, .tupS h l, p => .tup (g.seqT h) (RpL.dp g l p)
  | _, _, _, .tupO h l, p => .tup (.inl (.inl h)) (RpL.dp g l p)
  | _, _, _, .lstS h l, p => .lst (.inl (.inl (g _ _ h))) (RpL.dp g l p)
  | _, _, _, .lstO h l, p => .lst (.inl (.inl h)) (RpL.dp g l p)
  | _, _, _, .dctS _ _, p => by cases p
  | _, _, _, .dctO _ _, p => by cases p
theorem RpL.dp (g : Fle F H) : ∀ {vs : List V} {ds : List D} {as : List Addr}, RpL U F H vs ds as → plainL ds = true → DpAll U.K H vs (toPL ds)
  | _, _, _, .nil, _ => .nil
  | _, _, _, .cons h t, p => by
    rw [plainL, Bool.and_eq_true] at p
    exact .cons (Rp.dp g h p.1) (RpL.dp g t p.2)
end
end
/-! ### == -/
def okP (d : D) : Bool := d.plain && SeqAt.shaped d.toP
def eqE : D → D → Option D
  | .int a, .int b => some (.bl (a == b))
  | .str a, .str b => some (.bl (a == b))
  | .bl a, .bl b => some (.bl (a == b))
  | .non, .non => some (.bl true)
  | .non, .int _ => some (.bl false)
  | .int _, .non => some (.bl false)
  | .non, .str _ => some (.bl false)
  | .str _, .non => some (.bl false)
  | .non, .bl _ => some (.bl false)
  | .bl _, .non => some (.bl false)
  | .int _, .str _ => some (.bl false)
  | .str _, .int _ => some (.bl false)
  | .bl _, .str _ => some (.bl false)
  | .str _, .bl _ => some (.bl false)
  | d, e => if (okP d && okP e) = true then some (.bl (PyData.eqv d.toP e.toP)) else none
def neE (d e : D) : Option D := match eqE d e with
  | some (.bl b) => some (.bl (!b))
  | _ => none
def rEqE (K : PySem.W.Frag) : R2 := fun x y H Q => rEq x y H Q ∨ rEqD K x y H Q
def rNeE (K : PySem.W.Frag) : R2 := fun x y H Q => rNe x y H Q ∨ rNeD K x y H Q
theorem op_eqE {X : Cx} (hu : X.A.units + 64 < cLine) : OpR X (compareOp .Eq) (rEqE X.K) := OpR.or op_eq (op_eqD hu)
theorem op_neE {X : Cx} (hu : X.A.units + 64 < cLine) : OpR X (compareOp .NotEq) (rNeE X.K) := OpR.or op_ne (op_neD hu)
/-- what == tells -/
theorem eqE_cases {U : Wd} {F H : Hp} {x y : V} {d1 d2 : D} {c1 c2 : List Addr} {r : D} (g : Fle F H) (w1 : Rp U F H x d1 c1) (w2 : Rp U F H y d2 c2) (e : eqE d1 d2 = some r) :
    ∃ b, r = .bl b ∧ ((scal x y = true ∧ decide (x = y) = b) ∨ ∃ p q, Dp U.K H x p ∧ Dp U.K H y q ∧ SeqAt.shaped p = true ∧ SeqAt.shaped q = true ∧ PyData.eqv p q = b) := by
  unfold eqE at e
  split at e
  case h_15 =>
    split at e
    · rename_i h
      cases e
      unfold okP at h
      simp only [Bool.and_eq_true] at h
      exact ⟨_, rfl, .inr ⟨_, _, w1.dp g h.1.1, w2.dp g h.2.1, h.1.2, h.2.2, rfl⟩⟩
    · cases e
  all_goals
    cases e
    cases w1
    cases w2
    refine ⟨_, rfl, .inl ⟨rfl, ?_⟩⟩
    first
      | exact dec_int
      | exact dec_str
      | exact dec_bl
      | rfl
      | simp
theorem ok_eq {U : Wd} : Ok2 U (rEqE U.K) eqE := fun F H x y d1 d2 d c1 c2 Q g w1 w2 e k => by
  obtain ⟨b, rfl, h | ⟨p, q, h1, h2, h3, h4, h5⟩⟩ := eqE_cases g.le w1 w2 e
  · exact .inl ⟨h.1, by rw [h.2]; exact same_ g k (.bl b)⟩
  · exact .inr ⟨p, q, h1, h2, h3, h4, by rw [h5]; exact same_ g k (.bl b)⟩
theorem ok_ne {U : Wd} : Ok2 U (rNeE U.K) neE := fun F H x y d1 d2 d c1 c2 Q g w1 w2 e k => by
  unfold neE at e
  split at e
  · rename_i b' e'
    cases e
    obtain ⟨b, hb, h | ⟨p, q, h1, h2, h3, h4, h5⟩⟩ := eqE_cases g.le w1 w2 e'
    · cases hb
      exact .inl ⟨h.1, by rw [h.2]; exact same_ g k (.bl _)⟩
    · cases hb
      exact .inr ⟨p, q, h1, h2, h3, h4, by rw [h5]; exact same_ g k (.bl _)⟩
  · cases e

/-! ### order -/
def intsOf : List D → Option (List Int)
  | [] => some []
  | .int i :: ds => match intsOf ds with
    | some is => some (i :: is)
    | none => none
  | _ => none
theorem intsOf_eq : ∀ {ds : List D} {is : List Int}, intsOf ds = some is → ds = is.map D.int
  | [], is, h => by
    cases h
    rfl
  | .int i :: ds, is, h => by
    unfold intsOf at h
    split at h
    · rename_i is' e
      cases h
      rw [List.map_cons, intsOf_eq e]
    · cases h
  | .non :: ds, is, h => by cases h
  | .bl _ :: ds, is, h => by cases h
  | .str _ :: ds, is, h => by cases h
  | .scr _ :: ds, is, h => by cases h
  | .tup _ _ :: ds, is, h => by cases h
  | .lst _ _ :: ds, is, h => by cases h
  | .dct _ _ _ :: ds, is, h => by cases h
theorem intsOf_map : ∀ is : List Int, intsOf (is.map D.int) = some is
  | [] => rfl
  | i :: is => by rw [List.map_cons, intsOf, intsOf_map is]
theorem RpL.intsV {U : Wd} {F H : Hp} : ∀ {vs : List V} {is : List Int} {as : List Addr}, RpL U F H vs (is.map D.int) as → vs = is.map V.int
  | vs, [], as, h => by
    cases h
    rfl
  | vs, i :: is, as, h => by
    rw [List.map_cons] at h
    cases h with
    | cons h t =>
      obtain ⟨rfl, _⟩ := rp_int h
      rw [List.map_cons, t.intsV]
def ltD : D → D → Option D
  | .int a, .int b => some (.bl (decide (a < b)))
  | .str a, .str b => some (.bl (decide (a.cps.toList < b.cps.toList)))
  | .tup _ xs, .tup _ ys => match intsOf xs, intsOf ys with
    | some ns, some ms => some (.bl (HT.lexLt ns ms))
    | _, _ => none
  | _, _ => none
def leD : D → D → Option D
  | .int a, .int b => some (.bl (decide (a ≤ b)))
  | .str a, .str b => some (.bl (!decide (b.cps.toList < a.cps.toList)))
  | _, _ => none
def gtD : D → D → Option D
  | .int a, .int b => some (.bl (decide (b < a)))
  | .str a, .str b => some (.bl (decide (b.cps.toList < a.cps.toList)))
  | _, _ => none
def geD : D → D → Option D
  | .int a, .int b => some (.bl (decide (b ≤ a)))
  | .str a, .str b => some (.bl (!decide (a.cps.toList < b.cps.toList)))
  | _, _ => none
def rLtI : R2 := rI0 fun i j => .bl (decide (i < j))
def rLtS : R2 := fun x y H Q => ∃ i j, x = .str i ∧ y = .str j ∧ Q (.bl (decide (i.cps.toList < j.cps.toList))) H
def rLt' (K : PySem.W.Frag) : R2 := fun x y H Q => rLtI x y H Q ∨ rLtS x y H Q ∨ rLtT K x y H Q
theorem op_ltD {X : Cx} (hu : X.A.units < cLine) : OpR X (compareOp .Lt) (rLt' X.K) := OpR.or op_lt (OpR.or op_lt_str (op_ltT hu))
theorem ok_lt {U : Wd} : Ok2 U (rLt' U.K) ltD := fun F H x y d1 d2 d c1 c2 Q g w1 w2 e k => by
  unfold ltD at e
  split at e
  · cases e
    obtain ⟨rfl, _⟩ := rp_int w1
    obtain ⟨rfl, _⟩ := rp_int w2
    exact .inl ⟨_, _, rfl, rfl, same_ g k (.bl _)⟩
  · cases e
    obtain ⟨rfl, _⟩ := rp_str w1
    obtain ⟨rfl, _⟩ := rp_str w2
    exact .inr (.inl ⟨_, _, rfl, rfl, same_ g k (.bl _)⟩)
  · split at e
    · rename_i ns ms e1 e2
      cases e
      obtain ⟨a, vs, rfl, q1, bs1, l1⟩ := tup_now g.le w1
      obtain ⟨b, us, rfl, q2, bs2, l2⟩ := tup_now g.le w2
      rw [intsOf_eq e1] at l1
      rw [intsOf_eq e2] at l2
      rw [l1.intsV] at q1
      rw [l2.intsV] at q2
      exact .inr (.inr ⟨a, b, ns, ms, rfl, rfl, q1, q2, same_ g k (.bl _)⟩)
    · cases e
  · cases e
def rLe' : R2 := fun x y H Q => (rI0 fun i j => .bl (decide (i ≤ j))) x y H Q ∨ ∃ i j, x = .str i ∧ y = .str j ∧ Q (.bl (!decide (j.cps.toList < i.cps.toList))) H
def rGt' : R2 := fun x y H Q => (rI0 fun i j => .bl (decide (j < i))) x y H Q ∨ ∃ i j, x = .str i ∧ y = .str j ∧ Q (.bl (decide (j.cps.toList < i.cps.toList))) H
def rGe' : R2 := fun x y H Q => (rI0 fun i j => .bl (decide (j ≤ i))) x y H Q ∨ ∃ i j, x = .str i ∧ y = .str j ∧ Q (.bl (!decide (i.cps.toList < j.cps.toList))) H
theorem op_leD {X : Cx} : OpR X (compareOp .LtE) rLe' := OpR.or op_le op_le_str
theorem op_gtD {X : Cx} : OpR X (compareOp .Gt) rGt' := OpR.or op_gt op_gt_str
theorem op_geD {X : Cx} : OpR X (compareOp .GtE) rGe' := OpR.or op_ge op_ge_str
theorem ok_le {U : Wd} : Ok2 U rLe' leD := fun F H x y d1 d2 d c1 c2 Q g w1 w2 e k => by
  unfold leD at e
  split at e
  · cases e
    obtain ⟨rfl, _⟩ := rp_int w1
    obtain ⟨rfl, _⟩ := rp_int w2
    exact .inl ⟨_, _, rfl, rfl, same_ g k (.bl _)⟩
  · cases e
    obtain ⟨rfl, _⟩ := rp_str w1
    obtain ⟨rfl, _⟩ := rp_str w2
    exact .inr ⟨_, _, rfl, rfl, same_ g k (.bl _)⟩
  · cases e
theorem ok_gt {U : Wd} : Ok2 U rGt' gtD := fun F H x y d1 d2 d c1 c2 Q g w1 w2 e k => by
  unfold gtD at e
  split at e
  · cases e
    obtain ⟨rfl, _⟩ := rp_int w1
    obtain ⟨rfl, _⟩ := rp_int w2
    exact .inl ⟨_, _, rfl, rfl, same_ g k (.bl _)⟩
  · cases e
    obtain ⟨rfl, _⟩ := rp_str w1
    obtain ⟨rfl, _⟩ := rp_str w2
    exact .inr ⟨_, _, rfl, rfl, same_ g k (.bl _)⟩
  · cases e
theorem ok_ge {U : Wd} : Ok2 U rGe' geD := fun F H x y d1 d2 d c1 c2 Q g w1 w2 e k => by
  unfold geD at e
  split at e
  · cases e
    obtain ⟨rfl, _⟩ := rp_int w1
    obtain ⟨rfl, _⟩ := rp_int w2
    exact .inl ⟨_, _, rfl, rfl, same_ g k (.bl _)⟩
  · cases e
    obtain ⟨rfl, _⟩ := rp_str w1
    obtain ⟨rfl, _⟩ := rp_str w2
    exact .inr ⟨_, _, rfl, rfl, same_ g k (.bl _)⟩
  · cases e

/-! ### is None -/
def isNon : D → D → Option D
  | .non, .non => some (.bl true)
  | _, .non => some (.bl false)
  | _, _ => none
def notNon : D → D → Option D
  | .non, .non => some (.bl false)
  | _, .non => some (.bl true)
  | _, _ => none
theorem rp_non_iff {U : Wd} {F H : Hp} {x : V} {d : D} {c : List Addr} (w : Rp U F H x d c) : x = .non ↔ d = .non := by
  cases w <;> simp
theorem ok_isN {U : Wd} : Ok2 U (fun x y H Q => y = .non ∧ Q (.bl (decide (x = .non))) H) isNon := fun F H x y d1 d2 d c1 c2 Q g w1 w2 e k => by
  unfold isNon at e
  split at e
  · cases e
    cases w1
    cases w2
    exact ⟨rfl, same_ g k (.bl _)⟩
  · rename_i hn
    cases e
    cases w2
    refine ⟨rfl, ?_⟩
    have : ¬ x = .non := fun q => hn ((rp_non_iff w1).mp q)
    rw [decide_eq_false this]
    exact same_ g k (.bl _)
  · cases e
theorem ok_notN {U : Wd} : Ok2 U (fun x y H Q => y = .non ∧ Q (.bl (!decide (x = .non))) H) notNon := fun F H x y d1 d2 d c1 c2 Q g w1 w2 e k => by
  unfold notNon at e
  split at e
  · cases e
    cases w1
    cases w2
    exact ⟨rfl, same_ g k (.bl _)⟩
  · rename_i hn
    cases e
    cases w2
    refine ⟨rfl, ?_⟩
    have : ¬ x = .non := fun q => hn ((rp_non_iff w1).mp q)
    rw [decide_eq_false this]
    exact same_ g k (.bl _)
  · cases e

/-! ### in -/
def inF (d : D) (ds : List D) : Bool := inV d.toV (ds.map D.toV)
def okIn (d : D) (ds : List D) : Bool := d.flat && ds.all D.flat
def inD : D → D → Option D
  | .str a, .str b => match a.cps.toList with
    | [c] => some (.bl (decide (c ∈ b.cps.toList)))
    | _ => some (.bl (!(Builtin.Str.occurrences b a 0 b.length 1).isEmpty))
  | d, .lst _ ds => if okIn d ds = true then some (.bl (inF d ds)) else if (okP d && okP (.lst true ds)) = true then some (.bl (ds.any fun z => PyData.eqv z.toP d.toP)) else none
  | d, .tup _ ds => if okIn d ds = true then some (.bl (inF d ds)) else none
  | _, _ => none
def notInD (d e : D) : Option D := match inD d e with
  | some (.bl b) => some (.bl (!b))
  | _ => none
def rInSign : R2 := fun x y H Q => ∃ (c : Nat) (z : Str), x = .str ⟨#[c]⟩ ∧ y = .str z ∧ Q (.bl (decide (c ∈ z.cps.toList))) H
def rInStr : R2 := fun x y H Q => ∃ i j, x = .str i ∧ y = .str j ∧ Q (.bl (!(Builtin.Str.occurrences j i 0 j.length 1).isEmpty)) H
def rInAll (K : PySem.W.Frag) : R2 := fun x y H Q => rInSign x y H Q ∨ rInStr x y H Q ∨ rIn K false x y H Q ∨ rInD K x y H Q
def rNiSign : R2 := fun x y H Q => ∃ (c : Nat) (z : Str), x = .str ⟨#[c]⟩ ∧ y = .str z ∧ Q (.bl (!decide (c ∈ z.cps.toList))) H
def rNiStr : R2 := fun x y H Q => ∃ i j, x = .str i ∧ y = .str j ∧ Q (.bl (!(!(Builtin.Str.occurrences j i 0 j.length 1).isEmpty))) H
def rNiAll (K : PySem.W.Frag) : R2 := fun x y H Q => rNiSign x y H Q ∨ rNiStr x y H Q ∨ rIn K true x y H Q ∨ rNotInD K x y H Q
theorem op_inAll {X : Cx} (hu : X.A.units + 65 < cLine) : OpR X (compareOp .In) (rInAll X.K) := OpR.or op_in_sign (OpR.or op_in_str (OpR.or op_in_seq (op_inD hu)))
theorem op_niAll {X : Cx} (hu : X.A.units + 65 < cLine) : OpR X (compareOp .NotIn) (rNiAll X.K) := OpR.or op_notIn_sign (OpR.or op_notin_str (OpR.or op_notIn_seq (op_notInD hu)))
theorem inD_cases {U : Wd} {F H : Hp} {x y : V} {d1 d2 : D} {c1 c2 : List Addr} {r : D} (g : Good F H []) (w1 : Rp U F H x d1 c1) (w2 : Rp U F H y d2 c2) (e : inD d1 d2 = some r) :
    ∃ b, r = .bl b ∧ ((∃ (c : Nat) (z : Str), x = .str ⟨#[c]⟩ ∧ y = .str z ∧ decide (c ∈ z.cps.toList) = b) ∨ (∃ i j, x = .str i ∧ y = .str j ∧ (!(Builtin.Str.occurrences j i 0 j.length 1).isEmpty) = b) ∨
      (∃ p xs, y = .ref p ∧ (SqL U.K H p xs ∨ SqT U.K H p xs) ∧ flatV x = true ∧ xs.all flatV = true ∧ inV x xs = b) ∨
      ∃ d ds, Dp U.K H x d ∧ Dp U.K H y (.list ds) ∧ SeqAt.shaped d = true ∧ SeqAt.shaped (.list ds) = true ∧ (ds.any fun z => PyData.eqv z d) = b) := by
  unfold inD at e
  split at e
  · rename_i a b
    obtain ⟨rfl, _⟩ := rp_str w1
    obtain ⟨rfl, _⟩ := rp_str w2
    split at e
    · rename_i c ec
      cases e
      refine ⟨_, rfl, .inl ⟨c, b, ?_, rfl, rfl⟩⟩
      have : a.cps = #[c] := by
        apply Array.toList_inj.mp
        rw [ec]
      cases a
      simp only at this
      rw [this]
    · cases e
      exact ⟨_, rfl, .inr (.inl ⟨a, b, rfl, rfl, rfl⟩)⟩
  · split at e
    · rename_i hok
      cases e
      unfold okIn at hok
      simp only [Bool.and_eq_true] at hok
      obtain ⟨a, vs, rfl, q1, bs, l⟩ := lst_now g.le w2
      obtain ⟨rfl, _⟩ := w1.flat hok.1
      rw [l.flat hok.2] at q1
      exact ⟨_, rfl, .inr (.inr (.inl ⟨a, _, rfl, .inl (.inl (.inl q1)), flatV_of hok.1, all_flatV hok.2, rfl⟩))⟩
    · split at e
      · rename_i ds _ hok
        cases e
        unfold okP at hok
        simp only [Bool.and_eq_true] at hok
        have h2 : Dp U.K H y (.list (toPL ds)) := w2.dp g.le hok.2.1
        refine ⟨_, rfl, .inr (.inr (.inr ⟨_, _, w1.dp g.le hok.1.1, h2, hok.1.2, hok.2.2, ?_⟩))⟩
        rw [toPL_map, List.any_map]
        rfl
      · cases e
  · split at e
    · rename_i hok
      cases e
      unfold okIn at hok
      simp only [Bool.and_eq_true] at hok
      obtain ⟨a, vs, rfl, q1, bs, l⟩ := tup_now g.le w2
      obtain ⟨rfl, _⟩ := w1.flat hok.1
      rw [l.flat hok.2] at q1
      exact ⟨_, rfl, .inr (.inr (.inl ⟨a, _, rfl, .inr q1, flatV_of hok.1, all_flatV hok.2, rfl⟩))⟩
    · cases e
  · cases e
theorem ok_in {U : Wd} : Ok2 U (rInAll U.K) inD := fun F H x y d1 d2 d c1 c2 Q g w1 w2 e k => by
  obtain ⟨b, rfl, ⟨c, z, h1, h2, h3⟩ | ⟨i, j, h1, h2, h3⟩ | ⟨p, xs, h1, h2, h3, h4, h5⟩ | ⟨p, q, h1, h2, h3, h4, h5⟩⟩ := inD_cases g w1 w2 e
  · exact .inl ⟨c, z, h1, h2, by rw [h3]; exact same_ g k (.bl b)⟩
  · exact .inr (.inl ⟨i, j, h1, h2, by rw [h3]; exact same_ g k (.bl b)⟩)
  · exact .inr (.inr (.inl ⟨p, xs, h1, h2, h3, h4, by rw [if_neg Bool.false_ne_true, h5]; exact same_ g k (.bl b)⟩))
  · exact .inr (.inr (.inr ⟨p, q, h1, h2, h3, h4, by rw [h5]; exact same_ g k (.bl b)⟩))
theorem ok_notIn {U : Wd} : Ok2 U (rNiAll U.K) notInD := fun F H x y d1 d2 d c1 c2 Q g w1 w2 e k => by
  unfold notInD at e
  split at e
  · rename_i b' e'
    cases e
    obtain ⟨b, hb, ⟨c, z, h1, h2, h3⟩ | ⟨i, j, h1, h2, h3⟩ | ⟨p, xs, h1, h2, h3, h4, h5⟩ | ⟨p, q, h1, h2, h3, h4, h5⟩⟩ := inD_cases g w1 w2 e'
    · cases hb
      exact .inl ⟨c, z, h1, h2, by rw [h3]; exact same_ g k (.bl _)⟩
    · cases hb
      exact .inr (.inl ⟨i, j, h1, h2, by rw [h3]; exact same_ g k (.bl _)⟩)
    · cases hb
      exact .inr (.inr (.inl ⟨p, xs, h1, h2, h3, h4, by rw [if_pos rfl, h5]; exact same_ g k (.bl _)⟩))
    · cases hb
      exact .inr (.inr (.inr ⟨p, q, h1, h2, h3, h4, by rw [h5]; exact same_ g k (.bl _)⟩))
  · cases e

/-! ### subscripts -/
def ixD : D → D → Option D
  | .lst _ ds, .int i => match atI ds i with
    | some d => if d.frozen = true then some d else none
    | none => none
  | .tup _ ds, .int i => match atI ds i with
    | some d => if d.frozen = true then some d else none
    | none => none
  | .str s, .int i => if lineOk s.length = true then match atI s.cps.toList i with
      | some c => some (signD c)
      | none => none
    else none
  | .scr ns, .int i => match atI ns i with
    | some n => some (.int n)
    | none => none
  | _, _ => none
theorem RpL.getAny {U : Wd} {F H : Hp} : ∀ {vs : List V} {ds : List D} {as : List Addr} {i : Nat} {d : D}, RpL U F H vs ds as → ds[i]? = some d → ∃ v bs, vs[i]? = some v ∧ Rp U F H v d bs
  | _, _, _, 0, d, .cons (d := d') h t, e => by
    simp only [List.getElem?_cons_zero, Option.some.injEq] at e
    subst e
    exact ⟨_, _, rfl, h⟩
  | _, _, _, i + 1, d, .cons h t, e => by
    obtain ⟨v, bs, h1, h2⟩ := RpL.getAny (i := i) t (by simpa using e)
    exact ⟨v, bs, by simpa using h1, h2⟩
  | _, _, _, i, d, .nil, e => by simp at e
theorem atI_get {α β : Type} {xs : List α} {ys : List β} (hl : xs.length = ys.length) {i : Int} {y : β} (h : atI ys i = some y) : ∃ j : Nat, ys[j]? = some y ∧ ∀ x, xs[j]? = some x → atI xs i = some x := by
  unfold atI at h ⊢
  rw [hl]
  cases e : ixN ys.length i with
  | none => rw [e] at h; cases h
  | some j =>
    rw [e] at h
    exact ⟨j, h, fun x hx => hx⟩
theorem ok_ix {U : Wd} : Ok2 U (rIx U.K) ixD := fun F H x y d1 d2 d c1 c2 Q g w1 w2 e k => by
  unfold ixD at e
  split at e
  · split at e
    · rename_i d' e'
      split at e
      · rename_i hf
        cases e
        obtain ⟨a, vs, rfl, q1, bs, l⟩ := lst_now g.le w1
        obtain ⟨rfl, _⟩ := rp_int w2
        obtain ⟨j, h1, h2⟩ := atI_get l.len e'
        obtain ⟨v, b1, h3, h4⟩ := l.getAny h1
        have := h4.nil_of hf
        subst this
        exact .inl ⟨a, vs, _, v, rfl, rfl, .inl (.inl q1), h2 v h3, same_ g k h4⟩
      · cases e
    · cases e
  · split at e
    · rename_i d' e'
      split at e
      · rename_i hf
        cases e
        obtain ⟨a, vs, rfl, q1, bs, l⟩ := tup_now g.le w1
        obtain ⟨rfl, _⟩ := rp_int w2
        obtain ⟨j, h1, h2⟩ := atI_get l.len e'
        obtain ⟨v, b1, h3, h4⟩ := l.getAny h1
        have := h4.nil_of hf
        subst this
        exact .inr (.inl ⟨a, vs, _, v, rfl, rfl, q1, h2 v h3, same_ g k h4⟩)
      · cases e
    · cases e
  · split at e
    · rename_i hl
      split at e
      · rename_i c e'
        cases e
        obtain ⟨rfl, _⟩ := rp_str w1
        obtain ⟨rfl, _⟩ := rp_int w2
        exact .inr (.inr ⟨_, _, c, rfl, rfl, of_decide_eq_true hl, e', same_ g k (.str _)⟩)
      · cases e
    · cases e
  · split at e
    · rename_i ns i _ n e'
      cases e
      obtain ⟨rfl, _⟩ := rp_int w2
      cases w1 with
      | scr h =>
        have hl : (ns.map V.int).length = ns.length := by simp
        obtain ⟨j, h1, h2⟩ := atI_get hl e'
        exact .inl ⟨_, _, _, .int n, rfl, rfl, g.le.seqL h, h2 _ (by rw [List.getElem?_map, h1]; rfl), same_ g k (.int n)⟩
    · cases e
  · cases e

section
variable {X : Cx} {a b : Expr} {ma mb : Ox} {pos : Pos} {k : Nat}
theorem mv_add (ha : PE X a (tO (ux X) ma)) (hb : PE X b (tO (ux X) mb)) : PE X (.BinOp a .Add b pos) (tM (ux X) (op2 addD ma mb)) := mv_op op_addD ok_add ha hb
theorem mv_sub (ha : PE X a (tO (ux X) ma)) (hb : PE X b (tO (ux X) mb)) : PE X (.BinOp a .Sub b pos) (tM (ux X) (op2 subD ma mb)) := mv_op op_sub ok_sub ha hb
theorem mv_mul (ha : PE X a (tO (ux X) ma)) (hb : PE X b (tO (ux X) mb)) : PE X (.BinOp a .Mult b pos) (tM (ux X) (op2 mulD ma mb)) := mv_op op_mulD ok_mul ha hb
theorem mv_mod (ha : PE X a (tO (ux X) ma)) (hb : PE X b (tO (ux X) mb)) : PE X (.BinOp a .Mod b pos) (tM (ux X) (op2 modD ma mb)) := mv_op op_mod ok_mod ha hb
theorem mv_div (ha : PE X a (tO (ux X) ma)) (hb : PE X b (tO (ux X) mb)) : PE X (.BinOp a .FloorDiv b pos) (tM (ux X) (op2 divD ma mb)) := mv_op op_fdiv ok_div ha hb
theorem mv_pow (ha : PE X a (tO (ux X) ma)) (hb : PE X b (tO (ux X) mb)) : PE X (.BinOp a .Pow b pos) (tM (ux X) (op2 powD ma mb)) := mv_op op_pow ok_pow ha hb
theorem mv_neg (ha : PE X a (tO (ux X) ma)) : PE X (.UnaryOp .USub a pos) (tM (ux X) (op1 negD ma)) := mv_un un_neg ok_neg ha
theorem mv_ixD (ha : PE X a (tO (ux X) ma)) (hb : PE X b (tO (ux X) mb)) (hs : PlainIx b := by exact fun _ _ => rfl) : PE X (.Subscript a b pos) (tM (ux X) (op2 ixD ma mb)) := mv_ix ix_seq ok_ix ha hb hs
/-! comparisons: as values (mv_), as tests (mt_) -/
theorem mv_eq (hr : Room k X.A) (ha : PE X a (tO (ux X) ma)) (hb : PE X b (tO (ux X) mb)) : PE X (.Compare a [.Eq] [b] pos) (tM (ux X) (op2 eqE ma mb)) := mv_cmp (op_eqE hr.units) ok_eq ha hb (nobehind _ (by decide) (by decide))
theorem mv_ne (hr : Room k X.A) (ha : PE X a (tO (ux X) ma)) (hb : PE X b (tO (ux X) mb)) : PE X (.Compare a [.NotEq] [b] pos) (tM (ux X) (op2 neE ma mb)) := mv_cmp (op_neE hr.units) ok_ne ha hb (nobehind _ (by decide) (by decide))
theorem mv_lt (hr : Room k X.A) (ha : PE X a (tO (ux X) ma)) (hb : PE X b (tO (ux X) mb)) : PE X (.Compare a [.Lt] [b] pos) (tM (ux X) (op2 ltD ma mb)) := mv_cmp (op_ltD hr.units0) ok_lt ha hb (nobehind _ (by decide) (by decide))
theorem mv_le (ha : PE X a (tO (ux X) ma)) (hb : PE X b (tO (ux X) mb)) : PE X (.Compare a [.LtE] [b] pos) (tM (ux X) (op2 leD ma mb)) := mv_cmp op_leD ok_le ha hb (nobehind _ (by decide) (by decide))
theorem mv_gt (ha : PE X a (tO (ux X) ma)) (hb : PE X b (tO (ux X) mb)) : PE X (.Compare a [.Gt] [b] pos) (tM (ux X) (op2 gtD ma mb)) := mv_cmp op_gtD ok_gt ha hb (nobehind _ (by decide) (by decide))
theorem mv_ge (ha : PE X a (tO (ux X) ma)) (hb : PE X b (tO (ux X) mb)) : PE X (.Compare a [.GtE] [b] pos) (tM (ux X) (op2 geD ma mb)) := mv_cmp op_geD ok_ge ha hb (nobehind _ (by decide) (by decide))
theorem mv_isN (ha : PE X a (tO (ux X) ma)) (hb : PE X b (tO (ux X) mb)) : PE X (.Compare a [.Is] [b] pos) (tM (ux X) (op2 isNon ma mb)) := mv_cmp op_isN ok_isN ha hb (nobehind _ (by decide) (by decide))
theorem mv_notN (ha : PE X a (tO (ux X) ma)) (hb : PE X b (tO (ux X) mb)) : PE X (.Compare a [.IsNot] [b] pos) (tM (ux X) (op2 notNon ma mb)) := mv_cmp op_notN ok_notN ha hb (nobehind _ (by decide) (by decide))
theorem units65 (hr : Room k X.A) : X.A.units + 65 < cLine := by have := hr.un; omega
theorem mv_in (hr : Room k X.A) (ha : PE X a (tO (ux X) ma)) (hb : PE X b (tO (ux X) mb)) (hm : behindInMarks .In b = false := by rfl) : PE X (.Compare a [.In] [b] pos) (tM (ux X) (op2 inD ma mb)) := mv_cmp (op_inAll (units65 hr)) ok_in ha hb hm
theorem mv_notIn (hr : Room k X.A) (ha : PE X a (tO (ux X) ma)) (hb : PE X b (tO (ux X) mb)) (hm : behindInMarks .NotIn b = false := by rfl) : PE X (.Compare a [.NotIn] [b] pos) (tM (ux X) (op2 notInD ma mb)) := mv_cmp (op_niAll (units65 hr)) ok_notIn ha hb hm
theorem mt_eq (hr : Room k X.A) (ha : PE X a (tO (ux X) ma)) (hb : PE X b (tO (ux X) mb)) : PT X (.Compare a [.Eq] [b] pos) (tT (ux X) (toB (op2 eqE ma mb))) := mt_cmp (op_eqE hr.units) ok_eq ha hb (nobehind _ (by decide) (by decide))
theorem mt_ne (hr : Room k X.A) (ha : PE X a (tO (ux X) ma)) (hb : PE X b (tO (ux X) mb)) : PT X (.Compare a [.NotEq] [b] pos) (tT (ux X) (toB (op2 neE ma mb))) := mt_cmp (op_neE hr.units) ok_ne ha hb (nobehind _ (by decide) (by decide))
theorem mt_lt (hr : Room k X.A) (ha : PE X a (tO (ux X) ma)) (hb : PE X b (tO (ux X) mb)) : PT X (.Compare a [.Lt] [b] pos) (tT (ux X) (toB (op2 ltD ma mb))) := mt_cmp (op_ltD hr.units0) ok_lt ha hb (nobehind _ (by decide) (by decide))
theorem mt_le (ha : PE X a (tO (ux X) ma)) (hb : PE X b (tO (ux X) mb)) : PT X (.Compare a [.LtE] [b] pos) (tT (ux X) (toB (op2 leD ma mb))) := mt_cmp op_leD ok_le ha hb (nobehind _ (by decide) (by decide))
theorem mt_gt (ha : PE X a (tO (ux X) ma)) (hb : PE X b (tO (ux X) mb)) : PT X (.Compare a [.Gt] [b] pos) (tT (ux X) (toB (op2 gtD ma mb))) := mt_cmp op_gtD ok_gt ha hb (nobehind _ (by decide) (by decide))
theorem mt_ge (ha : PE X a (tO (ux X) ma)) (hb : PE X b (tO (ux X) mb)) : PT X (.Compare a [.GtE] [b] pos) (tT (ux X) (toB (op2 geD ma mb))) := mt_cmp op_geD ok_ge ha hb (nobehind _ (by decide) (by decide))
theorem mt_isN (ha : PE X a (tO (ux X) ma)) (hb : PE X b (tO (ux X) mb)) : PT X (.Compare a [.Is] [b] pos) (tT (ux X) (toB (op2 isNon ma mb))) := mt_cmp op_isN ok_isN ha hb (nobehind _ (by decide) (by decide))
theorem mt_notN (ha : PE X a (tO (ux X) ma)) (hb : PE X b (tO (ux X) mb)) : PT X (.Compare a [.IsNot] [b] pos) (tT (ux X) (toB (op2 notNon ma mb))) := mt_cmp op_notN ok_notN ha hb (nobehind _ (by decide) (by decide))
theorem mt_in (hr : Room k X.A) (ha : PE X a (tO (ux X) ma)) (hb : PE X b (tO (ux X) mb)) (hm : behindInMarks .In b = false := by rfl) : PT X (.Compare a [.In] [b] pos) (tT (ux X) (toB (op2 inD ma mb))) := mt_cmp (op_inAll (units65 hr)) ok_in ha hb hm
theorem mt_notIn (hr : Room k X.A) (ha : PE X a (tO (ux X) ma)) (hb : PE X b (tO (ux X) mb)) (hm : behindInMarks .NotIn b = false := by rfl) : PT X (.Compare a [.NotIn] [b] pos) (tT (ux X) (toB (op2 notInD ma mb))) := mt_cmp (op_niAll (units65 hr)) ok_notIn ha hb hm
end
end MP

/-! Mirror layer, part 7: slices, built-in functions, methods, stores into lists. -/
namespace MP
open PySem PySem.Spec L2

/-! ### slices -/
def oPart : Option Ox → En → Option (Option Hd × En)
  | none, E => some (none, E)
  | some m, E => match m E with
    | some (h, E1) => some (some h, E1)
    | none => none
def drPart (E : En) : Option Hd → Option (Option Int)
  | none => some none
  | some h => match dr E h with
    | some (.int i) => some (some i)
    | _ => none
def opSl (f : D → Option Int → Option Int → Option D) (a : Ox) (lo hi : Option Ox) : Ex := fun E => match a E with
  | some (h, E1) => match oPart lo E1 with
    | some (l, E2) => match oPart hi E2 with
      | some (u, E3) => match dr E3 h, drPart E3 l, drPart E3 u with
        | some d, some i, some j => match f d i j with
          | some r => some (r, E3)
          | none => none
        | _, _, _ => none
      | none => none
    | none => none
  | none => none
def tP (U : Wd) : Option Ox → TO
  | none => tNoPart
  | some m => tPart (tO U m)
/-- the part's handle must be an int as it comes -/
def intNow (m : Ox) : Ox := fun E => match m E with
  | some (h, E1) => match dr E1 h with
    | some (.int i) => some (.val (.int i), E1)
    | _ => none
  | none => none
def cutD (xs : List D) (lo hi : Option Int) : List D := (xs.drop (HT.sIx xs.length 0 lo)).take (HT.sIx xs.length xs.length hi - HT.sIx xs.length 0 lo)
def slD : D → Option Int → Option Int → Option D
  | .str s, lo, hi => if lineOk s.length = true then some (.str (cutS s lo hi)) else none
  | .lst _ ds, lo, hi => if frozenL ds = true then some (.lst true (cutD ds lo hi)) else none
  | .tup false ds, lo, hi => some (.tup false (cutD ds lo hi))
  | _, _, _ => none
def rSl' (K : PySem.W.Frag) : V → Option Int → Option Int → Hp → VK → Prop := fun x lo hi H Q => rSlS x lo hi H Q ∨ rSlL K x lo hi H Q ∨ rSlA K x lo hi H Q
theorem sl_D {X : Cx} : SlR X (rSl' X.K) := SlR.or sl_str (SlR.or sl_list sl_tupA)
theorem cut_rp {U : Wd} {F H : Hp} {vs : List V} {ds : List D} (l : RpL U F H vs ds []) (lo hi : Option Int) : RpL U F H (cutV vs lo hi) (cutD ds lo hi) [] := by
  unfold cutV cutD
  rw [l.len]
  exact (l.drop0 _).take0 _
theorem cut_all {α : Type} {ds : List α} {lo hi : Option Int} (h : HT.sIx ds.length 0 lo = 0 ∧ HT.sIx ds.length ds.length hi = ds.length) : (ds.drop (HT.sIx ds.length 0 lo)).take (HT.sIx ds.length ds.length hi - HT.sIx ds.length 0 lo) = ds := by
  rw [h.1, h.2]
  simp
theorem ok_sl {U : Wd} {F H : Hp} {x : V} {d1 d : D} {c : List Addr} {lo hi : Option Int} {Q : VK} (g : Good F H []) (w : Rp U F H x d1 c) (e : slD d1 lo hi = some d)
    (k : ∀ v F' H' bs, Step F H [] F' H' bs → Rp U F' H' v d bs → Q v H') : rSl' U.K x lo hi H Q := by
  unfold slD at e
  split at e
  · split at e
    · rename_i hl
      cases e
      obtain ⟨rfl, _⟩ := rp_str w
      exact .inl ⟨_, rfl, of_decide_eq_true hl, same_ g k (.str _)⟩
    · cases e
  · split at e
    · rename_i hf
      cases e
      obtain ⟨a, vs, rfl, e1, l⟩ := lst0 g w hf
      exact .inr (.inl ⟨a, vs, rfl, .inl (.inl e1), new_list g (cut_rp l lo hi) k⟩)
    · cases e
  · rename_i ds
    cases e
    obtain ⟨a, vs, rfl, e1, l, rfl⟩ := tupS0 g w
    refine .inr (.inr ⟨a, vs, rfl, e1, fun z => ?_, fun z => new_tup g (cut_rp l lo hi) k⟩)
    have : cutD ds lo hi = ds := by
      unfold cutD
      rw [l.len] at z
      exact cut_all z
    rw [this] at k
    exact same_ g k w
  · cases e
section
variable {X : Cx} {e : Expr} {lo hi : Option Expr} {pos p2 : Pos} {m : Ox} {ml mh : Option Ox}
def PP (X : Cx) (e : Option Expr) (m : Option Ox) : Prop := match e, m with
  | none, none => True
  | some e, some m => PE X e (tO (ux X) m)
  | _, _ => False
theorem intNow_reads {U : Wd} {m : Ox} {σ : Sl} {H : Hp} {R : Int → Hp → Prop} (q : tO U (intNow m) σ H fun x H1 => ∀ i, x = .int i → R i H1) : tO U m σ H fun x H1 => ∃ i, x = .int i ∧ R i H1 := by
  obtain ⟨E, F, as, h, E', g, r, e, q⟩ := q
  unfold intNow at e
  split at e
  · rename_i h1 E1 e1
    split at e
    · rename_i i e2
      cases e
      refine ⟨E, F, as, h1, E', g, r, e1, fun v F' H' bs as' s r' w => ?_⟩
      obtain ⟨cs, w2⟩ := w.now r' e2
      obtain ⟨rfl, _⟩ := rp_int w2
      exact ⟨i, rfl, q (.int i) F' H' [] as' s.right r' (Rp.int i) i rfl⟩
    · cases e
  · cases e
/-- the parts of a slice, then the cut -/
theorem part_reads {U : Wd} {m : Option Ox} {σ : Sl} {H : Hp} {E : En} {F : Hp} {as : List Addr} {l : Option Hd} {E2 : En} (g : Good F H as) (r : REnv U F H σ E as) (e : oPart (m.map intNow) E = some (l, E2)) {R : Option Int → Hp → Prop}
    (k : ∀ i F' H' as', Step F H as F' H' as' → REnv U F' H' σ E2 as' → (∀ E3, drPart E3 l = some i) → R i H') : tP U m σ H R := by
  cases m with
  | none =>
    have e : some ((none : Option Hd), E) = some (l, E2) := e
    cases e
    exact k none F H as (Step.refl g) r fun _ => rfl
  | some m =>
    simp only [Option.map_some, oPart] at e
    split at e
    · rename_i h E1 e1
      cases e
      refine intNow_reads (R := fun i H1 => R (some i) H1) ⟨E, F, as, h, E2, g, r, e1, fun v F' H' bs as' s r' w j ej => ?_⟩
      unfold intNow at e1
      split at e1
      · split at e1
        · rename_i i _
          cases e1
          obtain ⟨rfl, rfl⟩ := rp_int (show Rp U F' H' v (.int i) bs from w)
          cases ej
          exact k (some j) F' H' as' s r' fun _ => rfl
        · cases e1
      · cases e1
    · cases e
theorem mv_sl (he : PE X e (tO (ux X) m)) (hl : PO X lo (tP (ux X) ml)) (hh : PO X hi (tP (ux X) mh)) : PE X (.Subscript e (.Slice lo hi none p2) pos) (tM (ux X) (opSl slD m (ml.map intNow) (mh.map intNow))) := pe_mono (pe_slice sl_D he hl hh) fun σ H Q q => by
  obtain ⟨E, F, as, d, E', g, r, e, q⟩ := q
  unfold opSl at e
  split at e
  · rename_i h E1 e1
    split at e
    · rename_i l E2 e2
      split at e
      · rename_i u E3 e3
        split at e
        · rename_i d0 i j q1 q2 q3
          split at e
          · rename_i rr e4
            cases e
            refine ⟨E, F, as, h, E1, g, r, e1, fun x F1 H1 b1 as1 s1 r1 w1 => ?_⟩
            refine part_reads s1.right.good r1 e2 fun i' F2 H2 as2 s2 r2 k2 => ?_
            refine part_reads s2.good r2 e3 fun j' F3 H3 as3 s3 r3 k3 => ?_
            rw [k2] at q2
            rw [k3] at q3
            cases q2
            cases q3
            have s12 := s1.seq s2
            have s13 := s12.seq s3
            have w3 : RpH (ux X) F3 H3 σ x h b1 := (w1.mono s2.ext (Step.wait s1 s2)).mono s3.ext (Step.wait s12 s3)
            obtain ⟨cs, w4⟩ := w3.now r3 q1
            refine ok_sl s13.good.zero w4 e4 fun v F' H' bs t w => ?_
            obtain ⟨s4, r4⟩ := fin s13.right r3 t
            exact q v F' H' bs as3 s4 r4 w
          · cases e
        · cases e
      · cases e
    · cases e
  · cases e
theorem mp_none : PO X none (tP (ux X) none) := po_none
theorem mp_some {e : Expr} {m : Ox} (h : PE X e (tO (ux X) m)) : PO X (some e) (tP (ux X) (some m)) := po_some h
end
/-- s[::-1] of lists -/
def revD : D → Option D
  | .lst _ ds => if frozenL ds = true then some (.lst true ds.reverse) else none
  | _ => none
theorem ok_rev {U : Wd} : Ok1 U (fun x H Q => ∃ a xs, x = .ref a ∧ SqL U.K H a xs ∧ ∀ p, H p = none → Q (.ref p) (upd H p (.lst xs.reverse))) revD := fun F H x d1 d c1 Q g w1 e k => by
  unfold revD at e
  split at e
  · split at e
    · rename_i hf
      cases e
      obtain ⟨a, vs, rfl, e1, l⟩ := lst0 g w1 hf
      exact ⟨a, vs, rfl, .inl (.inl e1), new_list g l.rev0 k⟩
    · cases e
  · cases e

/-! ### built-in functions -/
def opN (f : List D → Option D) (m : Hx) : Ex := fun E => match m E with
  | some (hs, E1) => match drL E1 hs with
    | some ds => match f ds with
      | some d => some (d, E1)
      | none => none
    | none => none
  | none => none
def OkN (U : Wd) (r : List V → Hp → VK → Prop) (f : List D → Option D) : Prop := ∀ (F H : Hp) (xs : List V) (ds : List D) (d : D) (Q : VK), Good F H [] → RpP U F H xs ds → f ds = some d →
  (∀ v F' H' bs, Step F H [] F' H' bs → Rp U F' H' v d bs → Q v H') → r xs H Q
theorem opN_reads {U : Wd} {r : List V → Hp → VK → Prop} {f : List D → Option D} {m : Hx} (ok : OkN U r f) {σ : Sl} {H : Hp} {Q : VK} (q : tM U (opN f m) σ H Q) : tCB r (tH U m) σ H Q := by
  obtain ⟨E, F, as, d, E', g, rE, e, q⟩ := q
  unfold opN at e
  split at e
  · rename_i hs E1 e1
    split at e
    · rename_i ds e2
      split at e
      · rename_i d' e3
        cases e
        refine ⟨E, F, as, hs, E', g, rE, e1, fun vs F1 H1 bs as1 s1 r1 w => ?_⟩
        refine ok F1 H1 vs ds d Q s1.good.zero (w.now r1 e2) e3 fun v F' H' bs' t w' => ?_
        obtain ⟨s3, r3⟩ := fin s1.right r1 t
        exact q v F' H' bs' as1 s3 r3 w'
      · cases e
    · cases e
  · cases e
section
variable {X : Cx} {e : Expr} {es : List Expr} {pos p : Pos} {r : List V → Hp → VK → Prop} {f : List D → Option D} {m : Hx} {x : Str} {id T : String}
theorem mv_blt (hc : CallR X (.builtin id) r) (ok : OkN (ux X) r f) (hg : Gl X x) (hm : X.mg x = none) (hv : bootBuiltins x = some (.builtin id)) (ha : PA X (e :: es) (tH (ux X) m)) (hn : x ≠ "__name__" := by decide) (hdb : (x == ("__debug__" : Str)) = false := by decide)
    (he : starEach (e :: es) X.env = (false, eval e X.env) :: starEach es X.env := by rfl) (hpl : (backTo pos (starEach es X.env)).any (·.1) = false := by rfl) : PE X (.Call (.Name x p) (e :: es) [] pos) (tM (ux X) (opN f m)) := pe_mono (pe_callB hc hg hm hv ha hn hdb he hpl) fun _ _ _ q => opN_reads ok q
theorem mv_bty (hc : CallR X (.type T) r) (ok : OkN (ux X) r f) (hg : Gl X x) (hm : X.mg x = none) (hv : bootBuiltins x = some (.type T)) (ha : PA X (e :: es) (tH (ux X) m)) (hn : x ≠ "__name__" := by decide) (hdb : (x == ("__debug__" : Str)) = false := by decide)
    (he : starEach (e :: es) X.env = (false, eval e X.env) :: starEach es X.env := by rfl) (hpl : (backTo pos (starEach es X.env)).any (·.1) = false := by rfl) : PE X (.Call (.Name x p) (e :: es) [] pos) (tM (ux X) (opN f m)) := pe_mono (pe_callTy hc hg hm hv ha hn hdb he hpl) fun _ _ _ q => opN_reads ok q
end
section
variable {U : Wd} {F H : Hp}
theorem p1 {vs : List V} {d : D} (h : RpP U F H vs [d]) : ∃ v c, vs = [v] ∧ Rp U F H v d c := by
  cases h with
  | cons h t =>
    cases t
    obtain ⟨c, h⟩ := h
    exact ⟨_, c, rfl, h⟩
theorem p2 {vs : List V} {d e : D} (h : RpP U F H vs [d, e]) : ∃ v u c c', vs = [v, u] ∧ Rp U F H v d c ∧ Rp U F H u e c' := by
  cases h with
  | cons h t =>
    obtain ⟨u, c', rfl, hu⟩ := p1 t
    obtain ⟨c, h⟩ := h
    exact ⟨_, u, c, c', rfl, h, hu⟩
theorem p3 {vs : List V} {d e f : D} (h : RpP U F H vs [d, e, f]) : ∃ v u w c c' c'', vs = [v, u, w] ∧ Rp U F H v d c ∧ Rp U F H u e c' ∧ Rp U F H w f c'' := by
  cases h with
  | cons h t =>
    obtain ⟨u, w, c', c'', rfl, hu, hw⟩ := p2 t
    obtain ⟨c, h⟩ := h
    exact ⟨_, u, w, c, c', c'', rfl, h, hu, hw⟩
end
def lenD : List D → Option D
  | [.str s] => if lineOk s.length = true then some (.int s.length) else none
  | [.lst _ ds] => some (.int ds.length)
  | [.tup _ ds] => some (.int ds.length)
  | [.scr ns] => some (.int ns.length)
  | _ => none
theorem ok_len {U : Wd} : OkN U (fun xs H Q => ∃ x n, xs = [x] ∧ LenV U.K x H n ∧ Q (.int n) H) lenD := fun F H xs ds d Q g w0 e k => by
  unfold lenD at e
  split at e
  · split at e
    · rename_i hl
      cases e
      obtain ⟨v, c, rfl, w⟩ := p1 w0
      obtain ⟨rfl, _⟩ := rp_str w
      exact ⟨_, _, rfl, ⟨of_decide_eq_true hl, rfl⟩, same_ g k (.int _)⟩
    · cases e
  · cases e
    obtain ⟨v, c, rfl, w⟩ := p1 w0
    obtain ⟨a, vs, rfl, e1, bs, l⟩ := lst_now g.le w
    exact ⟨_, _, rfl, .inl ⟨vs, .inl (.inl e1), l.len.symm⟩, same_ g k (.int _)⟩
  · cases e
    obtain ⟨v, c, rfl, w⟩ := p1 w0
    obtain ⟨a, vs, rfl, e1, bs, l⟩ := tup_now g.le w
    exact ⟨_, _, rfl, .inr ⟨vs, e1, l.len.symm⟩, same_ g k (.int _)⟩
  · rename_i ns
    cases e
    obtain ⟨v, c, rfl, w⟩ := p1 w0
    cases w with
    | scr h => exact ⟨_, ns.length, rfl, .inl ⟨_, g.le.seqL h, by simp⟩, same_ g k (.int _)⟩
  · cases e
def absD : List D → Option D
  | [.int i] => some (.int (if i < 0 then -i else i))
  | _ => none
theorem ok_abs {U : Wd} : OkN U (fun xs H Q => ∃ i, xs = [.int i] ∧ Q (.int (if i < 0 then -i else i)) H) absD := fun F H xs ds d Q g w0 e k => by
  unfold absD at e
  split at e
  · cases e
    obtain ⟨v, c, rfl, w⟩ := p1 w0
    obtain ⟨rfl, _⟩ := rp_int w
    exact ⟨_, rfl, same_ g k (.int _)⟩
  · cases e
def maxD : List D → Option D
  | [.int i, .int j] => some (.int (if j > i then j else i))
  | _ => none
theorem ok_max {U : Wd} : OkN U (fun xs H Q => ∃ i j, xs = [.int i, .int j] ∧ Q (.int (if j > i then j else i)) H) maxD := fun F H xs ds d Q g w0 e k => by
  unfold maxD at e
  split at e
  · cases e
    obtain ⟨v, u, c, c', rfl, w1, w2⟩ := p2 w0
    obtain ⟨rfl, _⟩ := rp_int w1
    obtain ⟨rfl, _⟩ := rp_int w2
    exact ⟨_, _, rfl, same_ g k (.int _)⟩
  · cases e
def minD : List D → Option D
  | [.int i, .int j] => some (.int (if j < i then j else i))
  | _ => none
theorem ok_min {U : Wd} : OkN U (fun xs H Q => ∃ i j, xs = [.int i, .int j] ∧ Q (.int (if j < i then j else i)) H) minD := fun F H xs ds d Q g w0 e k => by
  unfold minD at e
  split at e
  · cases e
    obtain ⟨v, u, c, c', rfl, w1, w2⟩ := p2 w0
    obtain ⟨rfl, _⟩ := rp_int w1
    obtain ⟨rfl, _⟩ := rp_int w2
    exact ⟨_, _, rfl, same_ g k (.int _)⟩
  · cases e
def intD : List D → Option D
  | [.int i] => some (.int i)
  | [.bl b] => some (.int (if b then 1 else 0))
  | _ => none
theorem ok_int {U : Wd} : OkN U (fun xs H Q => (∃ i, xs = [.int i] ∧ Q (.int i) H) ∨ ∃ k, xs = [.bl k] ∧ Q (.int (if k then 1 else 0)) H) intD := fun F H xs ds d Q g w0 e k => by
  unfold intD at e
  split at e
  · cases e
    obtain ⟨v, c, rfl, w⟩ := p1 w0
    obtain ⟨rfl, _⟩ := rp_int w
    exact .inl ⟨_, rfl, same_ g k (.int _)⟩
  · cases e
    obtain ⟨v, c, rfl, w⟩ := p1 w0
    obtain ⟨rfl, _⟩ := rp_bl w
    exact .inr ⟨_, rfl, same_ g k (.int _)⟩
  · cases e
def divmodD : List D → Option D
  | [.int i, .int j] => if 0 < j ∧ j < 1073741824 then some (.tup false [.int (i / j), .int (i % j)]) else none
  | _ => none
theorem ok_divmod {U : Wd} : OkN U (fun xs H Q => ∃ i j, xs = [.int i, .int j] ∧ CDiv i j ∧ ∀ p, H p = none → Q (.ref p) (upd H p (.tup [.int (i / j), .int (i % j)]))) divmodD := fun F H xs ds d Q g w0 e k => by
  unfold divmodD at e
  split at e
  · split at e
    · rename_i h
      cases e
      obtain ⟨v, u, c, c', rfl, w1, w2⟩ := p2 w0
      obtain ⟨rfl, _⟩ := rp_int w1
      obtain ⟨rfl, _⟩ := rp_int w2
      exact ⟨_, _, rfl, h, new_tup g (.cons0 (.int _) (.cons0 (.int _) .nil)) k⟩
    · cases e
  · cases e
def listD : List D → Option D
  | [.lst _ ds] => if frozenL ds = true then some (.lst true ds) else none
  | [.tup false ds] => some (.lst true ds)
  | [.scr ns] => some (.lst true (ns.map D.int))
  | _ => none
theorem ok_list {U : Wd} : OkN U (fun xs H Q => ∃ p ys, xs = [.ref p] ∧ (SqL U.K H p ys ∨ SqT U.K H p ys) ∧ ∀ l, H l = none → Q (.ref l) (upd H l (.lst ys))) listD := fun F H xs ds d Q g w0 e k => by
  unfold listD at e
  split at e
  · split at e
    · rename_i hf
      cases e
      obtain ⟨v, c, rfl, w⟩ := p1 w0
      obtain ⟨a, vs, rfl, e1, l⟩ := lst0 g w hf
      exact ⟨a, vs, rfl, .inl (.inl (.inl e1)), new_list g l k⟩
    · cases e
  · cases e
    obtain ⟨v, c, rfl, w⟩ := p1 w0
    obtain ⟨a, vs, rfl, e1, l, _⟩ := tupS0 g w
    exact ⟨a, vs, rfl, .inr e1, new_list g l k⟩
  · cases e
    obtain ⟨v, c, rfl, w⟩ := p1 w0
    cases w with
    | scr h => exact ⟨_, _, rfl, .inl (g.le.seqL h), new_list g (RpL.ints _) k⟩
  · cases e
def tupleD : List D → Option D
  | [.lst _ ds] => if frozenL ds = true then some (.tup false ds) else none
  | [.tup false ds] => some (.tup false ds)
  | _ => none
theorem ok_tuple {U : Wd} : OkN U (fun xs H Q => ∃ p ys, xs = [.ref p] ∧ ((SqL U.K H p ys ∧ ∀ l, H l = none → Q (.ref l) (upd H l (.tup ys))) ∨ (SqT U.K H p ys ∧ Q (.ref p) H))) tupleD := fun F H xs ds d Q g w0 e k => by
  unfold tupleD at e
  split at e
  · split at e
    · rename_i hf
      cases e
      obtain ⟨v, c, rfl, w⟩ := p1 w0
      obtain ⟨a, vs, rfl, e1, l⟩ := lst0 g w hf
      exact ⟨a, vs, rfl, .inl ⟨.inl (.inl e1), new_tup g l k⟩⟩
    · cases e
  · cases e
    obtain ⟨v, c, rfl, w⟩ := p1 w0
    obtain ⟨a, vs, rfl, e1, l, rfl⟩ := tupS0 g w
    exact ⟨a, vs, rfl, .inr ⟨e1, same_ g k w⟩⟩
  · cases e
def boolsOf : List D → Option (List Bool)
  | [] => some []
  | .bl b :: ds => match boolsOf ds with
    | some bs => some (b :: bs)
    | none => none
  | _ => none
theorem boolsOf_rp {U : Wd} {F H : Hp} : ∀ {vs : List V} {ds : List D} {as : List Addr} {bs : List Bool}, RpL U F H vs ds as → boolsOf ds = some bs → vs = bs.map V.bl
  | _, _, _, bs, .nil, e => by
    cases e
    rfl
  | v :: vs, d :: ds, _, bs, .cons h t, e => by
    unfold boolsOf at e
    split at e
    · rename_i heq
      cases heq
    · rename_i b ds' heq
      cases heq
      split at e
      · rename_i bs' e1
        cases e
        obtain ⟨rfl, _⟩ := rp_bl h
        rw [List.map_cons, boolsOf_rp t e1]
      · cases e
    · cases e
theorem boolsOf_map : ∀ bs : List Bool, boolsOf (bs.map D.bl) = some bs
  | [] => rfl
  | b :: bs => by rw [List.map_cons, boolsOf, boolsOf_map bs]
def allD : List D → Option D
  | [.lst _ ds] => match boolsOf ds with
    | some bs => some (.bl (bs.all id))
    | none => none
  | _ => none
def anyD : List D → Option D
  | [.lst _ ds] => match boolsOf ds with
    | some bs => some (.bl (bs.any id))
    | none => none
  | _ => none
theorem ok_all {U : Wd} : OkN U (rAll U.K) allD := fun F H xs ds d Q g w0 e k => by
  unfold allD at e
  split at e
  · split at e
    · rename_i bs e1
      cases e
      obtain ⟨v, c, rfl, w⟩ := p1 w0
      obtain ⟨a, vs, rfl, e2, bs', l⟩ := lst_now g.le w
      rw [boolsOf_rp l e1] at e2
      exact ⟨a, bs, rfl, .inl (.inl e2), same_ g k (.bl _)⟩
    · cases e
  · cases e
theorem ok_any {U : Wd} : OkN U (rAny U.K) anyD := fun F H xs ds d Q g w0 e k => by
  unfold anyD at e
  split at e
  · split at e
    · rename_i bs e1
      cases e
      obtain ⟨v, c, rfl, w⟩ := p1 w0
      obtain ⟨a, vs, rfl, e2, bs', l⟩ := lst_now g.le w
      rw [boolsOf_rp l e1] at e2
      exact ⟨a, bs, rfl, .inl (.inl e2), same_ g k (.bl _)⟩
    · cases e
  · cases e
def sumD : List D → Option D
  | [.lst _ ds] => match intsOf ds with
    | some ns => some (.int ns.sum)
    | none => none
  | _ => none
theorem ok_sum {U : Wd} : OkN U (rSum U.K) sumD := fun F H xs ds d Q g w0 e k => by
  unfold sumD at e
  split at e
  · split at e
    · rename_i ns e1
      cases e
      obtain ⟨v, c, rfl, w⟩ := p1 w0
      obtain ⟨a, vs, rfl, e2, bs', l⟩ := lst_now g.le w
      rw [intsOf_eq e1] at l
      rw [l.intsV] at e2
      exact ⟨a, ns, rfl, .inl (.inl e2), same_ g k (.int _)⟩
    · cases e
  · cases e

/-! ### isinstance with one built-in class -/
def tyName : D → String
  | .str _ => "str"
  | .int _ => "int"
  | .bl _ => "bool"
  | .non => "NoneType"
  | .tup _ _ => "tuple"
  | .lst _ _ => "list"
  | .dct _ _ _ => "dict"
  | .scr _ => "list"
def isB (n T : String) : Bool := T == n || (n == "bool" && T == "int")
def isD (T : String) : D → Option D
  | .scr _ => none
  | .str _ => some (.bl (isB "str" T))
  | .int _ => some (.bl (isB "int" T))
  | .bl _ => some (.bl (isB "bool" T))
  | .non => some (.bl (isB "NoneType" T))
  | .tup _ _ => some (.bl (isB "tuple" T))
  | .lst _ _ => some (.bl (isB "list" T))
  | .dct _ _ _ => some (.bl (isB "dict" T))
theorem rp_ty {U : Wd} {F H : Hp} {v : V} {d : D} {c : List Addr} (g : Fle F H) (h : Rp U F H v d c) (hd : ∀ ns, d ≠ .scr ns) : TyX U.K H v (.type (tyName d)) := by
  cases h with
  | non => exact .base .non
  | bl b => exact .base (.bl b)
  | int i => exact .base (.int i)
  | str s => exact .base (.str s)
  | scr h => exact absurd rfl (hd _)
  | tupS h l =>
    rcases g.seqT h with (h | ⟨o, h⟩) | ⟨o, its, n, h1, h2, _⟩
    · exact .base (.tup h)
    · exact .fTuple h
    · exact .kTuple h1 h2
  | tupO h l => exact .base (.tup h)
  | lstS h l => exact .base (.lst (g _ _ h))
  | lstO h l => exact .base (.lst h)
  | dctS h l => exact .base (.dK (g _ _ h))
  | dctO h l => exact .base (.dK h)
def isOk (T : String) : Prop := ∀ n ∈ ["str", "int", "bool", "NoneType", "tuple", "list", "dict"], kitB n T = some (isB n T)
theorem isD_eq {T : String} {d : D} (hd : ∀ ns, d ≠ .scr ns) : isD T d = some (.bl (isB (tyName d) T)) := by
  cases d with
  | scr ns => exact absurd rfl (hd ns)
  | _ => rfl
theorem tyName_mem (d : D) : tyName d ∈ ["str", "int", "bool", "NoneType", "tuple", "list", "dict"] := by
  cases d <;> simp [tyName]
theorem isOk_str : isOk "str" := by
  unfold isOk
  decide +kernel
theorem isOk_int : isOk "int" := by
  unfold isOk
  decide +kernel
theorem isOk_bool : isOk "bool" := by
  unfold isOk
  decide +kernel
theorem isOk_tuple : isOk "tuple" := by
  unfold isOk
  decide +kernel
theorem isOk_list : isOk "list" := by
  unfold isOk
  decide +kernel
section
variable {X : Cx} {e : Expr} {pos p pt : Pos} {m : Ox} {T : String} {tn : Str}
theorem mv_isi (ok : isOk T) (hg : Gl X "isinstance") (hm : X.mg "isinstance" = none) (hgT : Gl X tn) (hmT : X.mg tn = none) (hvT : bootBuiltins tn = some (.type T)) (he : PE X e (tO (ux X) m))
    (hnT : tn ≠ "__name__" := by decide) (hdT : (tn == ("__debug__" : Str)) = false := by decide)
    (hs1 : starEach [.Name tn pt] X.env = (false, eval (.Name tn pt) X.env) :: starEach [] X.env := by rfl) (hs : starEach [e, .Name tn pt] X.env = (false, eval e X.env) :: starEach [.Name tn pt] X.env := by rfl) (hpl : (backTo pos (starEach [.Name tn pt] X.env)).any (·.1) = false := by rfl) :
    PE X (.Call (.Name "isinstance" p) [e, .Name tn pt] [] pos) (tM (ux X) (op1 (isD T) m)) :=
  pe_mono (pe_callB (t := tCons (tO (ux X) m) (tCons (tC (.ty T)) tNil)) call_isi hg hm (by decide +kernel) (pa_cons he (pa_cons (pe_bltn hgT hmT hvT rfl hnT hdT) pa_nil hs1) hs) (by decide) (by decide) hs hpl) fun σ H Q q => by
    obtain ⟨E, F, as, d, E', g, rE, e, q⟩ := q
    obtain ⟨h1, d1, e1, e3, e5⟩ := op1_inv e
    refine ⟨E, F, as, h1, E', g, rE, e1, fun x F1 H1 c1 as1 s1 r1 q1 => ?_⟩
    obtain ⟨z1, w1⟩ := q1.now r1 e3
    have hd : ∀ ns, d1 ≠ .scr ns := fun ns z => by
      subst z
      cases e5
    rw [isD_eq hd] at e5
    cases e5
    refine ⟨x, .ty T, .type (tyName d1), .type T, _, rfl, .ty T, rp_ty s1.good.le w1 hd, kit_ty (ok _ (tyName_mem d1)), ?_⟩
    exact q _ F1 H1 [] as1 s1.right r1 (.bl _)
end

/-! ### methods of texts -/
def opM (T : String) (f : D → List D → Option D) (o : Ox) (m : Hx) : Ex := fun E => match o E with
  | some (h, E1) => match dr E1 h with
    | some d0 => if tyName d0 = T then match m E1 with
        | some (hs, E2) => match dr E2 h, drL E2 hs with
          | some d1, some ds => match f d1 ds with
            | some d => some (d, E2)
            | none => none
          | _, _ => none
        | none => none
      else none
    | none => none
  | none => none
def OkM (U : Wd) (r : V → List V → Hp → VK → Prop) (f : D → List D → Option D) : Prop := ∀ (F H : Hp) (x : V) (d1 : D) (c : List Addr) (xs : List V) (ds : List D) (d : D) (Q : VK), Good F H [] → Rp U F H x d1 c → RpP U F H xs ds → f d1 ds = some d →
  (∀ v F' H' bs, Step F H [] F' H' bs → Rp U F' H' v d bs → Q v H') → r x xs H Q
theorem rp_tyV {U : Wd} {F H : Hp} {v : V} {d : D} {c : List Addr} {T : String} (g : Fle F H) (h : Rp U F H v d c) (e : tyName d = T) (hT : T = "str" ∨ T = "list") : tyV U.K T v H := by
  subst e
  cases h with
  | str s => exact rfl
  | lstS h l => exact .inl ⟨rfl, _, .inl (.inl (g _ _ h))⟩
  | lstO h l => exact .inl ⟨rfl, _, .inl (.inl h)⟩
  | scr h => exact .inl ⟨rfl, _, g.seqL h⟩
  | _ => rcases hT with hT | hT <;> simp [tyName] at hT
theorem opM_reads {U : Wd} {T : String} {r : V → List V → Hp → VK → Prop} {f : D → List D → Option D} {o : Ox} {m : Hx} (ok : OkM U r f) (hT : T = "str" ∨ T = "list") {σ : Sl} {H : Hp} {Q : VK} (q : tM U (opM T f o m) σ H Q) : tBM U.K T r (tO U o) (tH U m) σ H Q := by
  obtain ⟨E, F, as, d, E', g, rE, e, q⟩ := q
  unfold opM at e
  split at e
  · rename_i h E1 e1
    split at e
    · rename_i d0 e2
      split at e
      · rename_i ety
        split at e
        · rename_i hs E2 e3
          split at e
          · rename_i d1 ds e4 e5
            split at e
            · rename_i d' e6
              cases e
              refine ⟨E, F, as, h, E1, g, rE, e1, fun x F1 H1 b1 as1 s1 r1 w1 => ?_⟩
              obtain ⟨c0, w0⟩ := w1.now r1 e2
              refine ⟨rp_tyV s1.good.le w0 ety hT, E1, F1, as1, hs, E', s1.right.good, r1, e3, fun vs F2 H2 b2 as2 s2 r2 w2 => ?_⟩
              obtain ⟨c1, w3⟩ := (w1.mono s2.ext (Step.wait s1 s2)).now r2 e4
              have s12 := s1.seq s2
              refine ok F2 H2 x d1 c1 vs ds d Q s12.good.zero w3 (w2.now r2 e5) e6 fun v F' H' bs t w => ?_
              obtain ⟨s4, r4⟩ := fin s12.right.right r2 t
              exact q v F' H' bs as2 s4 r4 w
            · cases e
          · cases e
        · cases e
      · cases e
    · cases e
  · cases e
def opM0 (T : String) (f : D → List D → Option D) (o : Ox) : Ex := opM T f o hNil
theorem opM0_reads {U : Wd} {T : String} {r : V → List V → Hp → VK → Prop} {f : D → List D → Option D} {o : Ox} (ok : OkM U r f) (hT : T = "str" ∨ T = "list") {σ : Sl} {H : Hp} {Q : VK} (q : tM U (opM0 T f o) σ H Q) : tBM0 U.K T r (tO U o) σ H Q := by
  obtain ⟨E, F, as, h, E1, g, rE, e1, q⟩ := opM_reads ok hT q
  refine ⟨E, F, as, h, E1, g, rE, e1, fun x F1 H1 b1 as1 s1 r1 w1 => ?_⟩
  obtain ⟨ty, E2, F2, as2, hs, E3, g2, r2, e2, q2⟩ := q x F1 H1 b1 as1 s1 r1 w1
  refine ⟨ty, ?_⟩
  cases e2
  exact q2 [] F2 H1 [] as2 (Step.refl g2) r2 .nil
section
variable {X : Cx} {o e : Expr} {es : List Expr} {name : Str} {apos cpos : Pos} {T id : String} {r : V → List V → Hp → VK → Prop} {f : D → List D → Option D} {mo : Ox} {m : Hx}
theorem mv_meth (ok : OkM (ux X) r f) (hT : T = "str" ∨ T = "list") (pa : PlainAttrs T) (slot : Slot T name id) (hty : typeOf (.builtin id) = pure (.type "method_descriptor")) (hm : MtR X id r) (ho : PE X o (tO (ux X) mo)) (ha : PA X (e :: es) (tH (ux X) m))
    (hbase : attributeBase o name X.env (eval o X.env) = eval o X.env := by rfl)
    (hfew : ((backTo cpos (starEach (e :: es) X.env)).all (fun x => !x.1) && (backToKw cpos (keywordEach [] X.env)).all (fun x => x.1.isSome)
      && decide ((e :: es).length + ([] : List Keyword).length + (if ([] : List Keyword).isEmpty then 0 else 1) < 30)) = true := by rfl)
    (hline : (apos.endLine == cpos.line) = true := by rfl) (hs : starEach (e :: es) X.env = (false, eval e X.env) :: starEach es X.env := by rfl) (hplain : (backTo cpos (starEach es X.env)).any (·.1) = false := by rfl) :
    PE X (.Call (.Attribute o name apos) (e :: es) [] cpos) (tM (ux X) (opM T f mo m)) := pe_mono (pe_bm pa slot hty hm ho ha hbase hfew hline hs hplain) fun _ _ _ q => opM_reads ok hT q
theorem mv_meth0 (ok : OkM (ux X) r f) (hT : T = "str" ∨ T = "list") (pa : PlainAttrs T) (slot : Slot T name id) (hty : typeOf (.builtin id) = pure (.type "method_descriptor")) (hm : MtR X id r) (ho : PE X o (tO (ux X) mo))
    (hbase : attributeBase o name X.env (eval o X.env) = eval o X.env := by rfl) (hline : (apos.endLine == cpos.line) = true := by rfl) : PE X (.Call (.Attribute o name apos) [] [] cpos) (tM (ux X) (opM0 T f mo)) := pe_mono (pe_bm0 pa slot hty hm ho hbase hline) fun _ _ _ q => opM0_reads ok hT q
end
def strsOf : List D → Option (List Str)
  | [] => some []
  | .str s :: ds => match strsOf ds with
    | some ss => some (s :: ss)
    | none => none
  | _ => none
theorem strsOf_rp {U : Wd} {F H : Hp} : ∀ {vs : List V} {ds : List D} {as : List Addr} {bs : List Str}, RpL U F H vs ds as → strsOf ds = some bs → vs = bs.map V.str
  | _, _, _, bs, .nil, e => by
    cases e
    rfl
  | v :: vs, d :: ds, _, bs, .cons h t, e => by
    unfold strsOf at e
    split at e
    · rename_i heq
      cases heq
    · rename_i b ds' heq
      cases heq
      split at e
      · rename_i bs' e1
        cases e
        obtain ⟨rfl, _⟩ := rp_str h
        rw [List.map_cons, strsOf_rp t e1]
      · cases e
    · cases e
theorem strsOf_map : ∀ bs : List Str, strsOf (bs.map D.str) = some bs
  | [] => rfl
  | b :: bs => by rw [List.map_cons, strsOf, strsOf_map bs]
def countD : D → List D → Option D
  | .str a, [.str b] => some (.int (Txt.count a b))
  | _, _ => none
theorem ok_count {U : Wd} : OkM U (fun x xs H Q => ∃ a b, x = .str a ∧ xs = [.str b] ∧ Q (.int (Txt.count a b)) H) countD := fun F H x d1 c xs ds d Q g w1 w0 e k => by
  unfold countD at e
  split at e
  · cases e
    obtain ⟨v, c, rfl, w⟩ := p1 w0
    obtain ⟨rfl, _⟩ := rp_str w1
    obtain ⟨rfl, _⟩ := rp_str w
    exact ⟨_, _, rfl, rfl, same_ g k (.int _)⟩
  · cases e
def rfindD : D → List D → Option D
  | .str a, [.str b] => some (.int (Txt.rfind a b))
  | _, _ => none
theorem ok_rfind {U : Wd} : OkM U (fun x xs H Q => ∃ a b, x = .str a ∧ xs = [.str b] ∧ Q (.int (Txt.rfind a b)) H) rfindD := fun F H x d1 c xs ds d Q g w1 w0 e k => by
  unfold rfindD at e
  split at e
  · cases e
    obtain ⟨v, c, rfl, w⟩ := p1 w0
    obtain ⟨rfl, _⟩ := rp_str w1
    obtain ⟨rfl, _⟩ := rp_str w
    exact ⟨_, _, rfl, rfl, same_ g k (.int _)⟩
  · cases e
def joinOk (a : Str) (ys : List Str) : Bool := decide ((ys.map (·.length)).sum + ys.length * a.length ≤ 16777216)
def joinD : D → List D → Option D
  | .str a, [.lst _ ds] => match strsOf ds with
    | some ys => if joinOk a ys = true then some (.str (Txt.join a ys)) else none
    | none => none
  | .str a, [.tup _ ds] => match strsOf ds with
    | some ys => if joinOk a ys = true then some (.str (Txt.join a ys)) else none
    | none => none
  | _, _ => none
theorem ok_join {U : Wd} : OkM U (fun x xs H Q => ∃ a p, ∃ ys : List Str, x = .str a ∧ xs = [.ref p] ∧ (SqL U.K H p (ys.map V.str) ∨ SqT U.K H p (ys.map V.str)) ∧ (ys.map (·.length)).sum + ys.length * a.length ≤ 16777216 ∧ Q (.str (Txt.join a ys)) H) joinD := fun F H x d1 c xs ds d Q g w1 w0 e k => by
  unfold joinD at e
  split at e
  · split at e
    · rename_i ys e1
      split at e
      · rename_i hl
        cases e
        obtain ⟨v, c, rfl, w⟩ := p1 w0
        obtain ⟨rfl, _⟩ := rp_str w1
        obtain ⟨a, vs, rfl, e2, bs, l⟩ := lst_now g.le w
        rw [strsOf_rp l e1] at e2
        exact ⟨_, a, ys, rfl, rfl, .inl (.inl (.inl e2)), of_decide_eq_true hl, same_ g k (.str _)⟩
      · cases e
    · cases e
  · split at e
    · rename_i ys e1
      split at e
      · rename_i hl
        cases e
        obtain ⟨v, c, rfl, w⟩ := p1 w0
        obtain ⟨rfl, _⟩ := rp_str w1
        obtain ⟨a, vs, rfl, e2, bs, l⟩ := tup_now g.le w
        rw [strsOf_rp l e1] at e2
        exact ⟨_, a, ys, rfl, rfl, .inr e2, of_decide_eq_true hl, same_ g k (.str _)⟩
      · cases e
    · cases e
  · cases e
end MP

/-! Mirror layer, part 8: lists changed in place, repr, chains, calls by keywords alone, the end. -/
namespace MP
open PySem PySem.Spec L2

/-! ### an owned list in a slot -/
section
variable {U : Wd} {F H : Hp} {σ : Sl} {E : En} {as : List Addr} {i : Nat} {ds : List D}
theorem REnv.list (r : REnv U F H σ E as) (e : E[i]? = some (some (.lst true ds))) : ∃ a us xs rest, σ[i]? = some (some (.ref a)) ∧ H a = some (.lst us) ∧ RpL U F H us ds xs ∧ as.Perm (a :: (xs ++ rest)) ∧ REnv U F H σ (E.set i none) rest := by
  obtain ⟨v, a1, rest, h1, w, p, r2⟩ := r.take e
  cases w with
  | @lstO a us _ xs h l => exact ⟨a, us, xs, rest, h1, h, l, p, r2⟩
/-- and it is written -/
theorem write_list {a : Addr} {us' : List V} {ds' : List D} {xs ws rest : List Addr} (hi : i < E.length) (g : Good F H (ws ++ (a :: (xs ++ rest)))) (hs : σ[i]? = some (some (.ref a))) (l : RpL U F H us' ds' xs) (r : REnv U F H σ (E.set i none) rest) :
    Step F H (ws ++ (a :: (xs ++ rest))) F (upd H a (.lst us')) (ws ++ (a :: (xs ++ rest))) ∧ REnv U F (upd H a (.lst us')) σ (E.set i (some (.lst true ds'))) (a :: (xs ++ rest)) ∧ ∀ b ∈ ws, upd H a (.lst us') b = H b := by
  have nd := g.nd
  have nd2 := (List.nodup_append.mp nd).2.1
  have na : ∀ b ∈ xs ++ rest, b ≠ a := fun b z h => (List.nodup_cons.mp nd2).1 (h ▸ z)
  have nw : ∀ b ∈ ws, b ≠ a := fun b z h => (List.nodup_append.mp nd).2.2 b z a (.head _) h
  refine ⟨Step.writeIn g (List.mem_append_right _ (.head _)), ?_, fun b z => upd_ne (nw b z)⟩
  have r1 : REnv U F (upd H a (.lst us')) σ (E.set i none) rest := r.mono (Fle.refl _) fun b z => upd_ne (na b (List.mem_append_right _ z))
  have l1 : RpL U F (upd H a (.lst us')) us' ds' xs := l.mono (Fle.refl _) fun b z => upd_ne (na b (List.mem_append_left _ z))
  have r2 := r1.putS (set_none_get hi) hs (.lstO upd_same l1)
  rw [List.set_set] at r2
  exact r2
end
theorem get_lt {E : En} {i : Nat} {o : Option D} (e : E[i]? = some o) : i < E.length := (List.getElem?_eq_some_iff.mp e).1
def lstAt (E : En) (i : Nat) : Option (List D) := match E[i]? with
  | some (some (.lst true ds)) => some ds
  | _ => none
theorem lstAt_eq {E : En} {i : Nat} {ds : List D} (h : lstAt E i = some ds) : E[i]? = some (some (.lst true ds)) := by
  unfold lstAt at h
  split at h
  · rename_i e
    cases h
    exact e
  · cases h
def isLst (E : En) (i : Nat) : Bool := match E[i]? with
  | some (some (.lst _ _)) => true
  | _ => false
theorem isLst_ty {U : Wd} {F H : Hp} {σ : Sl} {E : En} {as : List Addr} {i : Nat} (g : Good F H as) (r : REnv U F H σ E as) (h : isLst E i = true) : ∃ v, σ[i]? = some (some v) ∧ tyV U.K "list" v H := by
  unfold isLst at h
  split at h
  · rename_i o ds e
    obtain ⟨v, a1, rest, h1, w, _, _⟩ := r.take e
    exact ⟨v, h1, rp_tyV g.le w rfl (.inr rfl)⟩
  · cases h
/-- x.append(e) -/
def xAppend (i : Nat) (m : Lx) : Ex := fun E => if isLst E i = true then match m E with
    | some ([d], E1) => match lstAt E1 i with
      | some ds => if lineOk (ds.length + 1) = true then some (.non, E1.set i (some (.lst true (ds ++ [d])))) else none
      | none => none
    | _ => none
  else none
theorem append_reads {U : Wd} {i : Nat} {m : Lx} {σ : Sl} {H : Hp} {Q : VK} (q : tM U (xAppend i m) σ H Q) : tBM U.K "list" rAppend (tVar i) (tL U m) σ H Q := by
  obtain ⟨E, F, as, d, E', g, rE, e, q⟩ := q
  unfold xAppend at e
  split at e
  · rename_i hl
    obtain ⟨v, hv, ty⟩ := isLst_ty g rE hl
    split at e
    · rename_i d1 E1 e1
      split at e
      · rename_i ds e2
        split at e
        · rename_i hz
          cases e
          refine ⟨v, hv, ty, E, F, as, _, E1, g, rE, e1, fun vs F1 H1 bs as1 s1 r1 w1 => ?_⟩
          obtain ⟨u, rfl, w⟩ := one_view w1
          obtain ⟨a, us, xs, rest, h1, h2, l, p, r2⟩ := r1.list (lstAt_eq e2)
          rw [hv] at h1
          cases h1
          have hi := get_lt (lstAt_eq e2)
          have p2 : (bs ++ as1).Perm ([] ++ (a :: ((xs ++ bs) ++ rest))) := by
            refine (p.append_left bs).trans ?_
            refine List.perm_middle.trans (List.Perm.cons a ?_)
            rw [← List.append_assoc]
            exact List.perm_append_comm.append_right rest
          have s2 := s1.perm p2
          obtain ⟨t, r3, _⟩ := write_list (us' := us ++ [u]) (ds' := ds ++ [d1]) hi s2.good hv (l.app (RpL.one w)) r2
          refine ⟨a, us, u, rfl, rfl, h2, ?_, q .non F1 _ [] _ (s2.trans t) r3 .non⟩
          have : ds.length + 1 ≤ sizeLine := of_decide_eq_true hz
          rw [l.len]
          exact this
        · cases e
      · cases e
    · cases e
  · cases e
/-- x.extend(ys) -/
def xExtend (i : Nat) (m : Hx) : Ex := fun E => if isLst E i = true then match m E with
    | some ([h], E1) => match dr E1 h, lstAt E1 i with
      | some (.lst _ es), some ds => if (frozenL es && lineOk (ds.length + es.length)) = true then some (.non, E1.set i (some (.lst true (ds ++ es)))) else none
      | _, _ => none
    | _ => none
  else none
theorem extend_reads {U : Wd} {i : Nat} {m : Hx} {σ : Sl} {H : Hp} {Q : VK} (q : tM U (xExtend i m) σ H Q) : tBM U.K "list" rExtend (tVar i) (tH U m) σ H Q := by
  obtain ⟨E, F, as, d, E', g, rE, e, q⟩ := q
  unfold xExtend at e
  split at e
  · rename_i hl
    obtain ⟨v, hv, ty⟩ := isLst_ty g rE hl
    split at e
    · rename_i h0 E1 e1
      split at e
      · rename_i o es ds e3 e2
        split at e
        · rename_i hz
          cases e
          simp only [Bool.and_eq_true] at hz
          refine ⟨v, hv, ty, E, F, as, _, E1, g, rE, e1, fun vs F1 H1 bs as1 s1 r1 w1 => ?_⟩
          cases w1 with
          | @cons u _ _ _ b1 b2 w wt =>
            cases wt
            obtain ⟨c, w⟩ := w.now r1 e3
            obtain ⟨b, zs, rfl, hb, lb⟩ := lst0 s1.good.zero w hz.1
            obtain ⟨a, us, xs, rest, h1, h2, l, p, r2⟩ := r1.list (lstAt_eq e2)
            rw [hv] at h1
            cases h1
            have hi := get_lt (lstAt_eq e2)
            have s2 := (s1.right.perm p)
            obtain ⟨t, r3, _⟩ := write_list (ws := []) (us' := us ++ zs) (ds' := ds ++ es) (xs := xs) hi s2.good hv (by simpa using l.app lb) r2
            refine ⟨a, b, us, zs, rfl, rfl, h2, hb, ?_, q .non F1 _ [] _ (s2.trans t) r3 .non⟩
            rw [l.len, lb.len]
            exact of_decide_eq_true hz.2
        · cases e
      · cases e
    · cases e
  · cases e
/-- x.pop() -/
def xPop (i : Nat) : Ex := fun E => match lstAt E i with
  | some ds => match ds.getLast? with
    | some d => some (d, E.set i (some (.lst true ds.dropLast)))
    | none => none
  | none => none
theorem RpL.unsnoc {U : Wd} {F H : Hp} : ∀ {ds : List D} {d : D} {vs : List V} {as : List Addr}, RpL U F H vs (ds ++ [d]) as → ∃ us v xs bs, vs = us ++ [v] ∧ as = xs ++ bs ∧ RpL U F H us ds xs ∧ Rp U F H v d bs
  | [], d, vs, as, h => by
    obtain ⟨v, rfl, w⟩ := one_view h
    exact ⟨[], v, [], as, rfl, rfl, .nil, w⟩
  | d0 :: ds, d, vs, as, h => by
    cases h with
    | @cons v0 _ vs0 _ a1 a2 w t =>
      obtain ⟨us, v, xs, bs, rfl, rfl, l, w2⟩ := RpL.unsnoc t
      exact ⟨v0 :: us, v, a1 ++ xs, bs, rfl, by rw [List.append_assoc], .cons w l, w2⟩
theorem pop_reads {U : Wd} {i : Nat} {σ : Sl} {H : Hp} {Q : VK} (q : tM U (xPop i) σ H Q) : tBM0 U.K "list" rPop (tVar i) σ H Q := by
  obtain ⟨E, F, as, d, E', g, rE, e, q⟩ := q
  unfold xPop at e
  split at e
  · rename_i ds e1
    split at e
    · rename_i d0 e2
      cases e
      obtain ⟨a, us, xs, rest, h1, h2, l, p, r2⟩ := rE.list (lstAt_eq e1)
      have hi := get_lt (lstAt_eq e1)
      have ed : ds = ds.dropLast ++ [d] := by
        have hne : ds ≠ [] := fun z => by
          subst z
          cases e2
        rw [List.getLast?_eq_some_getLast hne] at e2
        cases e2
        exact (List.dropLast_concat_getLast hne).symm
      have l' : RpL U F H us (ds.dropLast ++ [d]) xs := by
        rw [← ed]
        exact l
      obtain ⟨us0, v, xs0, bs, rfl, rfl, l0, w⟩ := l'.unsnoc
      refine ⟨.ref a, h1, .inl ⟨rfl, _, .inl (.inl h2)⟩, a, _, v, rfl, rfl, h2, by simp, ?_⟩
      have p2 : as.Perm (bs ++ (a :: (xs0 ++ rest))) := by
        refine p.trans ?_
        refine List.Perm.trans (List.Perm.cons a ?_) List.perm_middle.symm
        rw [← List.append_assoc]
        exact List.perm_append_comm.append_right rest
      have s2 := (Step.refl g).perm p2
      obtain ⟨t, r3, kw⟩ := write_list (us' := us0) (ds' := ds.dropLast) hi s2.good h1 l0 r2
      rw [List.dropLast_concat]
      exact q v F _ bs _ (s2.trans t) r3 (w.mono (Fle.refl _) kw)
    · cases e
  · cases e
section
variable {X : Cx} {e : Expr} {x : Str} {px apos cpos : Pos} {i : Nat}
theorem mv_append {m : Lx} (hv : PE X (.Name x px) (tVar i)) (ha : PA X [e] (tL (ux X) m))
    (hbase : attributeBase (.Name x px) "append" X.env (eval (.Name x px) X.env) = eval (.Name x px) X.env := by rfl)
    (hfew : ((backTo cpos (starEach [e] X.env)).all (fun x => !x.1) && (backToKw cpos (keywordEach [] X.env)).all (fun x => x.1.isSome)
      && decide ([e].length + ([] : List Keyword).length + (if ([] : List Keyword).isEmpty then 0 else 1) < 30)) = true := by rfl)
    (hline : (apos.endLine == cpos.line) = true := by rfl) (hs : starEach [e] X.env = (false, eval e X.env) :: starEach [] X.env := by rfl) (hplain : (backTo cpos (starEach [] X.env)).any (·.1) = false := by rfl) :
    PE X (.Call (.Attribute (.Name x px) "append" apos) [e] [] cpos) (tM (ux X) (xAppend i m)) := pe_mono (pe_bm PySem.F.plainAttrs_list PySem.F.slot_list_append PySem.F.type_list_append mt_append hv ha hbase hfew hline hs hplain) fun _ _ _ q => append_reads q
theorem mv_extend {m : Hx} (hv : PE X (.Name x px) (tVar i)) (ha : PA X [e] (tH (ux X) m))
    (hbase : attributeBase (.Name x px) "extend" X.env (eval (.Name x px) X.env) = eval (.Name x px) X.env := by rfl)
    (hfew : ((backTo cpos (starEach [e] X.env)).all (fun x => !x.1) && (backToKw cpos (keywordEach [] X.env)).all (fun x => x.1.isSome)
      && decide ([e].length + ([] : List Keyword).length + (if ([] : List Keyword).isEmpty then 0 else 1) < 30)) = true := by rfl)
    (hline : (apos.endLine == cpos.line) = true := by rfl) (hs : starEach [e] X.env = (false, eval e X.env) :: starEach [] X.env := by rfl) (hplain : (backTo cpos (starEach [] X.env)).any (·.1) = false := by rfl) :
    PE X (.Call (.Attribute (.Name x px) "extend" apos) [e] [] cpos) (tM (ux X) (xExtend i m)) := pe_mono (pe_bm PySem.F.plainAttrs_list PySem.F.slot_list_extend PySem.F.type_list_extend mt_extend hv ha hbase hfew hline hs hplain) fun _ _ _ q => extend_reads q
theorem mv_pop (hv : PE X (.Name x px) (tVar i)) (hbase : attributeBase (.Name x px) "pop" X.env (eval (.Name x px) X.env) = eval (.Name x px) X.env := by rfl) (hline : (apos.endLine == cpos.line) = true := by rfl) :
    PE X (.Call (.Attribute (.Name x px) "pop" apos) [] [] cpos) (tM (ux X) (xPop i)) := pe_mono (pe_bm0 PySem.F.plainAttrs_list PySem.F.slot_list_pop PySem.F.type_list_pop mt_pop hv hbase hline) fun _ _ _ q => pop_reads q
end

/-! ### x[i] = v -/
theorem RpL.setAny {U : Wd} {F H : Hp} : ∀ {vs : List V} {ds : List D} {as : List Addr} {j : Nat} {v : V} {d : D} {bs : List Addr}, RpL U F H vs ds as → j < ds.length → Rp U F H v d bs → ∃ a0 rest as', as.Perm (a0 ++ rest) ∧ RpL U F H (vs.set j v) (ds.set j d) as' ∧ as'.Perm (bs ++ rest)
  | _, _, _, j, v, d, bs, .nil, h, w => by simp at h
  | _, _, _, 0, v, d, bs, .cons (as := a1) (bs := a2) w0 t, h, w => ⟨a1, a2, bs ++ a2, List.Perm.refl _, .cons w t, List.Perm.refl _⟩
  | _, _, _, j + 1, v, d, bs, .cons (as := a1) (bs := a2) w0 t, h, w => by
    obtain ⟨a0, rest, as', p, l, p'⟩ := RpL.setAny (j := j) t (by simpa using h) w
    refine ⟨a0, a1 ++ rest, a1 ++ as', ?_, .cons w0 l, ?_⟩
    · refine (p.append_left a1).trans ?_
      rw [← List.append_assoc, ← List.append_assoc]
      exact List.perm_append_comm.append_right rest
    · refine (p'.append_left a1).trans ?_
      rw [← List.append_assoc, ← List.append_assoc]
      exact List.perm_append_comm.append_right rest
def gIx (i : Nat) (mi : Ox) : Gm := fun d E => match lstAt E i with
  | some _ => match mi E with
    | some (h, E1) => match dr E1 h, lstAt E1 i with
      | some (.int k), some ds => match ixN ds.length k with
        | some j => some (E1.set i (some (.lst true (ds.set j d))))
        | none => none
      | _, _ => none
    | none => none
  | none => none
theorem gIx_reads {U : Wd} {pin : Pn} {i : Nat} {mi : Ox} {v : V} {σ : Sl} {H : Hp} {Q : Sl → Hp → Prop} (q : tG U pin (gIx i mi) v σ H Q) : gSub (tVar i) (tO U mi) rSetL v σ H Q := by
  obtain ⟨E, F, bs, as, d, E', g, rE, w, e, q⟩ := q
  unfold gIx at e
  split at e
  · rename_i ds0 e0
    split at e
    · rename_i h E1 e1
      split at e
      · rename_i k ds e3 e2
        split at e
        · rename_i j ej
          cases e
          obtain ⟨a0, _, _, _, hv, _, _, _, _⟩ := rE.list (lstAt_eq e0)
          refine ⟨.ref a0, hv, E, F, as, h, E1, g.sub (fun b z => List.mem_append_right _ z) (List.nodup_append.mp g.nd).2.1, rE, e1, fun x F1 H1 b1 as1 s1 r1 w1 => ?_⟩
          obtain ⟨c, w1⟩ := w1.now r1 e3
          obtain ⟨rfl, _⟩ := rp_int w1
          obtain ⟨a, us, xs, rest, h1, h2, l, p, r2⟩ := r1.list (lstAt_eq e2)
          rw [hv] at h1
          cases h1
          have hi := get_lt (lstAt_eq e2)
          have hj : j < ds.length := (ixN_seq ej).2.1
          have s0 : Step F H (bs ++ as) F H (bs ++ as) := Step.refl g
          have s2 : Step F H (bs ++ as) F1 H1 (bs ++ as1) := s0.seq s1.right
          have w' : Rp U F1 H1 v d bs := w.mono s1.ext (Step.wait s0 s1.right)
          obtain ⟨c0, crest, xs', pc, l', pc'⟩ := l.setAny hj w'
          have p2 : (bs ++ as1).Perm (c0 ++ (a0 :: (xs' ++ rest))) := by
            refine (p.append_left bs).trans ?_
            refine List.perm_middle.trans ?_
            refine List.Perm.trans (List.Perm.cons a0 ?_) (List.perm_middle (a := a0) (l₁ := c0) (l₂ := xs' ++ rest)).symm
            refine List.Perm.trans (((pc.append_right rest)).append_left bs) ?_
            refine List.Perm.trans (l₂ := c0 ++ ((bs ++ crest) ++ rest)) ?_ ((pc'.symm.append_right rest).append_left c0)
            rw [List.append_assoc c0, ← List.append_assoc bs, List.append_assoc bs crest, ← List.append_assoc c0]
            exact List.perm_append_comm.append_right _
          have s3 := s2.perm p2
          have s4 := s3.right
          obtain ⟨t, r3, _⟩ := write_list (ws := []) (us' := us.set j v) (ds' := ds.set j d) hi s4.good hv l' r2
          refine ⟨a0, us, k, j, rfl, rfl, h2, by rw [l.len]; exact ej, ?_⟩
          exact q σ F1 _ _ (s4.trans t) r3 (SameAt.refl _ _)
        · cases e
      · cases e
    · cases e
  · cases e
section
variable {X : Cx} {ei : Expr} {x : Str} {px pos : Pos} {i : Nat} {pin : Pn} {mi : Ox}
theorem mg_ix (hv : PE X (.Name x px) (tVar i)) (hi : PE X ei (tO (ux X) mi))
    (ha : ∀ v, assign (.Subscript (.Name x px) ei pos) X.env v = (do
      let ov ← holding [v] (eval (.Name x px) X.env)
      let iv ← holding [v, ov] (eval ei X.env)
      standAt pos
      holding [v, ov, iv] (setItem ov iv v)
      release [v, ov, iv] []) := by intro _; rfl) : PG X (.Subscript (.Name x px) ei pos) (tG (ux X) pin (gIx i mi)) :=
  ⟨fun pins s σ H v u Q I r q => (pg_sub hv hi set_list ha).run pins s σ H v u Q I r (gIx_reads q)⟩
end

/-! ### repr -/
section
variable {K : PySem.W.Frag} {H : Hp}
mutual
theorem Dp.noDict : ∀ {v : V} {d : PyData}, Dp K H v d → d.hasDict = false
  | _, _, .non => by simp only [PyData.hasDict]
  | _, _, .bl _ => by simp only [PyData.hasDict]
  | _, _, .int _ => by simp only [PyData.hasDict]
  | _, _, .str _ => by simp only [PyData.hasDict]
  | _, _, .lst _ l => by
    simp only [PyData.hasDict]
    exact DpAll.noDict l
  | _, _, .tup _ l => by
    simp only [PyData.hasDict]
    exact DpAll.noDict l
theorem DpAll.noDict : ∀ {vs : List V} {ds : List PyData}, DpAll K H vs ds → PyData.hasDictAll ds = false
  | _, _, .nil => by simp only [PyData.hasDictAll]
  | _, _, .cons h t => by simp only [PyData.hasDictAll, Dp.noDict h, DpAll.noDict t, Bool.or_self]
end
end
def rRepr (K : PySem.W.Frag) : List V → Hp → VK → Prop := fun xs H Q => ∃ x d, xs = [x] ∧ Dp K H x d ∧ d.showable = true ∧ d.depth ≤ 60 ∧ d.shown.length ≤ sizeLine ∧ Q (.str d.shown) H
theorem call_repr {X : Cx} {k : Nat} (hr : Room k X.A) (gd : X.A.guards = some []) : CallR X (.builtin "repr") (rRepr X.K) := by
  intro pins s σ H xs us Q I r h
  obtain ⟨x, d, rfl, hd, sh, dep, sz, q⟩ := h
  obtain ⟨u, rfl, ru⟩ : ∃ u, us = [u] ∧ RelV x u := by
    cases r with
    | cons a b =>
      cases b
      exact ⟨_, rfl, a⟩
  obtain ⟨as, rd⟩ := Dp.reads I d x u hd ru
  have out : ∀ (h' : Heap) (t : Tok) (tk : Nat), (∀ b o, s.heap.get? b = some o → h'.get? b = some o) → EP X pins σ Q (.str d.shown t) { s with heap := h', toks := tk } := fun h' t tk kk => ⟨.str d.shown, H, I.kept kk, ⟨t, rfl⟩, q⟩
  have here : ∀ (t : Tok) (tk : Nat), EP X pins σ Q (.str d.shown t) { s with toks := tk } := fun t tk => out s.heap t tk fun _ _ z => z
  cases hd with
  | non =>
    cases ru
    simp only [PyData.shown] at here
    exact PySem.P.repr_of_none (here _ _)
  | bl b =>
    cases ru
    simp only [PyData.shown] at here
    exact PySem.P.repr_of_bool (here _ _)
  | int i =>
    obtain ⟨t, rfl⟩ := ru
    simp only [PyData.shown] at here
    simp only [PyData.showable, decide_eq_true_eq] at sh
    exact PySem.P.repr_of_int sh (here _ _)
  | str z =>
    obtain ⟨t, rfl⟩ := ru
    simp only [PyData.shown] at here sz
    exact PySem.P.repr_of_str (here _ _) sz
  | @lst a vs ds hl l =>
    cases ru
    have un := hr.un
    exact repr_of_reads' rd sh (PyData.noDict_hsm (Dp.noDict (Dp.lst hl l))) gd (by omega) (fun _ _ z => z) out sz
  | @tup a vs ds hl l =>
    cases ru
    have un := hr.un
    exact repr_of_reads' rd sh (PyData.noDict_hsm (Dp.noDict (Dp.tup hl l))) gd (by omega) (fun _ _ z => z) out sz
def okShow (d : D) : Bool := d.plain && d.toP.showable && decide (d.toP.depth ≤ 60) && decide (d.toP.shown.length ≤ sizeLine)
def reprD : List D → Option D
  | [d] => if okShow d = true then some (.str d.toP.shown) else none
  | _ => none
theorem ok_repr {U : Wd} : OkN U (rRepr U.K) reprD := fun F H xs ds d Q g w0 e k => by
  unfold reprD at e
  split at e
  · split at e
    · rename_i hs
      cases e
      obtain ⟨v, c, rfl, w⟩ := p1 w0
      unfold okShow at hs
      simp only [Bool.and_eq_true, decide_eq_true_eq] at hs
      obtain ⟨⟨⟨h1, h2⟩, h3⟩, h4⟩ := hs
      exact ⟨v, _, rfl, w.dp g.le h1, h2, h3, h4, same_ g k (.str _)⟩
    · cases e
  · cases e

/-! ### a < b < c -/
def chT (f f' : D → D → Option D) (a b c : Ox) : Ex := fun E => match a E with
  | some (h1, E1) => match b E1 with
    | some (h2, E2) => match dr E2 h1, dr E2 h2 with
      | some d1, some d2 => match f d1 d2 with
        | some (.bl true) => match c E2 with
          | some (h3, E3) => match dr E3 h2, dr E3 h3 with
            | some d2', some d3 => match f' d2' d3 with
              | some d => some (d, E3)
              | none => none
            | _, _ => none
          | none => none
        | some (.bl false) => some (.bl false, E2)
        | _ => none
      | _, _ => none
    | none => none
  | none => none
theorem chain_reads {U : Wd} {r r' : R2} {f f' : D → D → Option D} {a b c : Ox} (ok : Ok2 U r f) (ok' : Ok2 U r' f') {σ : Sl} {H : Hp} {Q : VK} (q : tM U (chT f f' a b c) σ H Q) : tChain r r' (tO U a) (tO U b) (tO U c) σ H Q := by
  obtain ⟨E, F, as, d, E', g, rE, e, q⟩ := q
  unfold chT at e
  split at e
  · rename_i h1 E1 e1
    split at e
    · rename_i h2 E2 e2
      split at e
      · rename_i d1 d2 e3 e4
        split at e
        · rename_i e5
          split at e
          · rename_i h3 E3 e6
            split at e
            · rename_i d2' d3 e7 e8
              split at e
              · rename_i dd e9
                cases e
                refine seq2 (R := fun x y H2 => r x y H2 fun z H3 => ∃ k, z = .bl k ∧ (if k = true then tO U c σ H3 fun w' H4 => r' y w' H4 Q else Q (.bl false) H3)) g rE e1 e2 fun x y F2 H2 c1 c2 as2 s r2 q1 q2 => ?_
                obtain ⟨z1, w1⟩ := q1.now r2 e3
                obtain ⟨z2, w2⟩ := q2.now r2 e4
                refine ok F2 H2 x y d1 d2 _ z1 z2 _ s.good.zero w1 w2 e5 fun v F3 H3 bs t w => ?_
                obtain ⟨rfl, rfl⟩ := rp_bl w
                refine ⟨true, rfl, ?_⟩
                rw [if_pos rfl]
                have t2 : Step F2 H2 (c2 ++ as2) F3 H3 ((c2 ++ as2) ++ []) := t.frame s.right.good
                rw [List.append_nil] at t2
                have s3 : Step F H as F3 H3 (c2 ++ as2) := s.right.trans t2
                have r3 : REnv U F3 H3 σ E2 as2 := r2.mono t.ext fun a z => t.kept (s.right.right.good.on a z) (fun q => nomatch q)
                have q3 : RpH U F3 H3 σ y h2 c2 := q2.mono t.ext fun a z => t.kept (s.right.good.on a (List.mem_append_left _ z)) (fun q => nomatch q)
                refine ⟨E2, F3, as2, h3, E', s3.right.good, r3, e6, fun u F4 H4 c3 as4 s4 r4 q4 => ?_⟩
                obtain ⟨z3, w3⟩ := (q3.mono s4.ext (Step.wait s3 s4)).now r4 e7
                obtain ⟨z4, w4⟩ := q4.now r4 e8
                refine ok' F4 H4 y u d2' d3 d z3 z4 Q s4.good.zero w3 w4 e9 fun v F' H' bs t w => ?_
                obtain ⟨s5, r5⟩ := fin (s3.right.trans s4.right) r4 t
                exact q v F' H' bs as4 s5 r5 w
              · cases e
            · cases e
          · cases e
        · rename_i e5
          cases e
          refine seq2 (R := fun x y H2 => r x y H2 fun z H3 => ∃ k, z = .bl k ∧ (if k = true then tO U c σ H3 fun w' H4 => r' y w' H4 Q else Q (.bl false) H3)) g rE e1 e2 fun x y F2 H2 c1 c2 as2 s r2 q1 q2 => ?_
          obtain ⟨z1, w1⟩ := q1.now r2 e3
          obtain ⟨z2, w2⟩ := q2.now r2 e4
          refine ok F2 H2 x y d1 d2 _ z1 z2 _ s.good.zero w1 w2 e5 fun v F3 H3 bs t w => ?_
          obtain ⟨rfl, rfl⟩ := rp_bl w
          refine ⟨false, rfl, ?_⟩
          rw [if_neg Bool.false_ne_true]
          obtain ⟨s5, r5⟩ := fin s.right.right r2 t
          exact q _ F3 H3 [] as2 s5 r5 (.bl false)
        · cases e
      · cases e
    · cases e
  · cases e
section
variable {X : Cx} {a b c : Expr} {ma mb mc : Ox} {r r' : R2} {f f' : D → D → Option D} {op op' : CmpOp} {pos : Pos}
theorem mv_chain (ho : OpR X (compareOp op) r) (ho' : OpR X (compareOp op') r') (ok : Ok2 (ux X) r f) (ok' : Ok2 (ux X) r' f') (ha : PE X a (tO (ux X) ma)) (hb : PE X b (tO (ux X) mb)) (hc : PE X c (tO (ux X) mc)) (hm : lastMarks [op, op'] [b, c] = false := by with_unfolding_all rfl) :
    PE X (.Compare a [op, op'] [b, c] pos) (tM (ux X) (chT f f' ma mb mc)) := pe_mono (pe_chain ho ho' ha hb hc hm) fun _ _ _ q => chain_reads ok ok' q
theorem mt_chain (ho : OpR X (compareOp op) r) (ho' : OpR X (compareOp op') r') (ok : Ok2 (ux X) r f) (ok' : Ok2 (ux X) r' f') (ha : PE X a (tO (ux X) ma)) (hb : PE X b (tO (ux X) mb)) (hc : PE X c (tO (ux X) mc)) (hm : lastMarks [op, op'] [b, c] = false := by with_unfolding_all rfl) :
    PT X (.Compare a [op, op'] [b, c] pos) (tT (ux X) (toB (chT f f' ma mb mc))) := pt_mono (pt_chain ho ho' ha hb hc hm) fun _ _ _ q => chain_reads ok ok' (toB_reads q)
end
end MP

/-! Mirror layer, part 9: sorting, what repr of a display needs, an item taken out, calls by name. -/
namespace MP
open PySem PySem.Spec L2

/-! ### sorting by insertion -/
section
variable {α β : Type} {lt : α → α → Bool}
def insB (lt : α → α → Bool) (x : α) : List α → List α
  | [] => [x]
  | y :: l => if lt y x = true then y :: insB lt x l else x :: y :: l
def isortB (lt : α → α → Bool) : List α → List α
  | [] => []
  | x :: l => insB lt x (isortB lt l)
theorem insB_perm (x : α) : ∀ l : List α, (insB lt x l).Perm (x :: l)
  | [] => List.Perm.refl _
  | y :: l => by
    unfold insB
    split
    · exact ((insB_perm x l).cons y).trans (List.Perm.swap x y l)
    · exact List.Perm.refl _
theorem isortB_perm : ∀ l : List α, (isortB lt l).Perm l
  | [] => List.Perm.refl _
  | x :: l => (insB_perm x _).trans ((isortB_perm l).cons x)
theorem insB_srtd (O : SrtO.Swo lt) (x : α) : ∀ {l : List α}, SrtO.Srtd lt l → SrtO.Srtd lt (insB lt x l)
  | [], _ => SrtO.srtd_one x
  | y :: l, h => by
    obtain ⟨h1, h2⟩ := List.pairwise_cons.mp h
    unfold insB
    split
    · rename_i hy
      refine List.pairwise_cons.mpr ⟨fun z hz => ?_, insB_srtd O x h2⟩
      rcases List.mem_cons.mp ((insB_perm x l).mem_iff.mp hz) with e | hz
      · rw [e]
        exact O.asym y x hy
      · exact h1 z hz
    · rename_i hy
      have hy' : lt y x = false := by simpa using hy
      refine List.pairwise_cons.mpr ⟨fun z hz => ?_, h⟩
      rcases List.mem_cons.mp hz with e | hz
      · rw [e]
        exact hy'
      · exact O.tr x y z hy' (h1 z hz)
theorem isortB_srtd (O : SrtO.Swo lt) : ∀ l : List α, SrtO.Srtd lt (isortB lt l)
  | [] => List.Pairwise.nil
  | x :: l => insB_srtd O x (isortB_srtd O l)
theorem insB_cls (O : SrtO.Swo lt) (x w : α) : ∀ l : List α, (insB lt x l).filter (SrtO.eqv lt w) = (x :: l).filter (SrtO.eqv lt w)
  | [] => rfl
  | y :: l => by
    unfold insB
    split
    · rename_i hy
      have ih := insB_cls O x w l
      rcases SrtO.bcase (SrtO.eqv lt w y) with e | e
      · rcases SrtO.bcase (SrtO.eqv lt w x) with e2 | e2
        · obtain ⟨p1, p2⟩ := SrtO.eqv_iff.mp e
          obtain ⟨q1, q2⟩ := SrtO.eqv_iff.mp e2
          rw [O.tr x w y q1 p2] at hy
          cases hy
        · rw [List.filter_cons, e, List.filter_cons, e2, List.filter_cons, e, ih, List.filter_cons, e2]
          rfl
      · rw [List.filter_cons, e, ih, List.filter_cons, List.filter_cons, List.filter_cons, e]
        rfl
    · rfl
theorem isortB_stb (O : SrtO.Swo lt) : ∀ l : List α, SrtO.Stb lt (isortB lt l) l
  | [] => SrtO.Stb.refl []
  | x :: l => ⟨isortB_perm _, fun w => by
    show (insB lt x (isortB lt l)).filter _ = _
    rw [insB_cls O, List.filter_cons, List.filter_cons, (isortB_stb O l).cls w]⟩
theorem insB_rel {la : α → α → Bool} {lb : β → β → Bool} {R : α → β → Prop} (h : ∀ a b a' b', R a b → R a' b' → la a a' = lb b b') {a : α} {b : β} (r : R a b) : ∀ {as : List α} {bs : List β}, Paired R as bs → Paired R (insB la a as) (insB lb b bs)
  | _, _, .nil => .cons r .nil
  | _, _, .cons (a := y) (b := z) q t => by
    unfold insB
    rw [h _ _ _ _ q r]
    split
    · exact .cons q (insB_rel h r t)
    · exact .cons r (.cons q t)
theorem isortB_rel {la : α → α → Bool} {lb : β → β → Bool} {R : α → β → Prop} (h : ∀ a b a' b', R a b → R a' b' → la a a' = lb b b') : ∀ {as : List α} {bs : List β}, Paired R as bs → Paired R (isortB la as) (isortB lb bs)
  | _, _, .nil => .nil
  | _, _, .cons q t => insB_rel h q (isortB_rel h t)
end

/-! ### rows of ints and texts, by place -/
abbrev Ky := List (Int ⊕ List Nat)
def kLt (a b : Ky) : Bool := PyProof.Rows.lexLt PyProof.Rows.itemOrd a b
theorem kLt_swo {α : Type} (k : α → Ky) : SrtO.Swo fun x y => kLt (k x) (k y) := by
  refine ⟨fun x y h => ?_, fun x y z h1 h2 => ?_⟩
  · rcases SrtO.bcase (kLt (k y) (k x)) with e | e
    · have := (PyProof.Rows.listOrd PyProof.Rows.itemOrd).trans (k x) (k y) (k x) h e
      rw [(PyProof.Rows.listOrd PyProof.Rows.itemOrd).irrefl] at this
      cases this
    · exact e
  · rcases SrtO.bcase (kLt (k z) (k x)) with e | e
    · rcases (PyProof.Rows.listOrd PyProof.Rows.itemOrd).negTrans (k z) (k y) (k x) e with q | q
      · exact absurd (q.symm.trans h2) (by decide)
      · exact absurd (q.symm.trans h1) (by decide)
    · exact e
def itemsV (sh : Nat → Bool) : Nat → List V → Option Ky
  | _, [] => some []
  | i, .int n :: r => if sh i = true then none else (itemsV sh (i + 1) r).map (Sum.inl n :: ·)
  | i, .str x :: r => if sh i = true then (itemsV sh (i + 1) r).map (Sum.inr x.cps.toList :: ·) else none
  | _, _ :: _ => none
theorem itemsV_tup {sh : Nat → Bool} : ∀ {vs : List V} {us : List Value} {i : Nat} {l : Ky}, Vals vs us → itemsV sh i vs = some l → PyProof.Rows.tupItems sh i us = some l
  | [], _, i, l, .nil, h => h
  | .int n :: r, _, i, l, .cons q t, h => by
    obtain ⟨tk, rfl⟩ := q
    unfold itemsV at h
    unfold PyProof.Rows.tupItems
    split at h
    · cases h
    · rename_i hs
      rw [if_neg hs]
      cases e : itemsV sh (i + 1) r with
      | none => rw [e] at h; cases h
      | some l' =>
        rw [e] at h
        rw [itemsV_tup t e]
        exact h
  | .str x :: r, _, i, l, .cons q t, h => by
    obtain ⟨tk, rfl⟩ := q
    unfold itemsV at h
    unfold PyProof.Rows.tupItems
    split at h
    · rename_i hs
      rw [if_pos hs]
      cases e : itemsV sh (i + 1) r with
      | none => rw [e] at h; cases h
      | some l' =>
        rw [e] at h
        rw [itemsV_tup t e]
        exact h
    · cases h
  | .non :: r, _, i, l, _, h => by simp [itemsV] at h
  | .bl _ :: r, _, i, l, _, h => by simp [itemsV] at h
  | .byt _ :: r, _, i, l, _, h => by simp [itemsV] at h
  | .flt _ :: r, _, i, l, _, h => by simp [itemsV] at h
  | .ref _ :: r, _, i, l, _, h => by simp [itemsV] at h
  | .ty _ :: r, _, i, l, _, h => by simp [itemsV] at h
def sortBy (xs : List V) (ls : List Ky) : List V := (isortB (fun p q => kLt p.2 q.2) (xs.zip ls)).map (·.1)
/-- a row with its key -/
def RowK (K : PySem.W.Frag) (H : Hp) (sh : Nat → Bool) (x : V) (l : Ky) : Prop := ∃ t is, x = .ref t ∧ SqT K H t is ∧ is ≠ [] ∧ itemsV sh 0 is = some l
def rSortT (K : PySem.W.Frag) : List V → Hp → VK → Prop := fun vs H Q => ∃ (a : Addr) (xs : List V) (ls : List Ky) (sh : Nat → Bool), vs = [.ref a] ∧ SqL K H a xs ∧ Paired (RowK K H sh) xs ls ∧
  ∀ p, H p = none → Q (.ref p) (upd H p (.lst (sortBy xs ls)))
/-- a tuple of the heap with its key -/
def TupK (h : Heap) (sh : Nat → Bool) (v : Value) (l : Ky) : Prop := ∃ t us, v = .ref t ∧ PyProof.Rows.IsTup h t us ∧ us.toList ≠ [] ∧ PyProof.Rows.tupItems sh 0 us.toList = some l
theorem TupK.key {h : Heap} {sh : Nat → Bool} {v : Value} {l : Ky} (k : TupK h sh v l) : PyProof.Rows.tupKey h sh v = some l := by
  obtain ⟨t, us, rfl, ⟨o, ho, hc, n, hd⟩, ne, e⟩ := k
  simp only [PyProof.Rows.tupKey, ho, hd]
  exact e
theorem TupK.keeps {h h' : Heap} {sh : Nat → Bool} {v : Value} {l : Ky} (k : TupK h sh v l) (kp : ∀ b o, h.get? b = some o → h'.get? b = some o) : TupK h' sh v l := by
  obtain ⟨t, us, e, it, r⟩ := k
  exact ⟨t, us, e, it.keeps kp, r⟩
theorem paired_mem {α β : Type} {R : α → β → Prop} : ∀ {as : List α} {bs : List β}, Paired R as bs → ∀ a ∈ as, ∃ b, R a b
  | _, _, .nil, a, h => nomatch h
  | _, _, .cons r t, a, h => by
    rcases List.mem_cons.mp h with e | h
    · subst e
      exact ⟨_, r⟩
    · exact paired_mem t a h
theorem tups_of {h : Heap} {sh : Nat → Bool} : ∀ {vs : List Value}, (∀ v ∈ vs, ∃ l, TupK h sh v l) → ∃ fs, PyProof.Rows.TupsOf h sh vs fs ∧ fs.length = vs.length
  | [], _ => ⟨[], .nil, rfl⟩
  | v :: vs, k => by
    obtain ⟨fs, t, hl⟩ := tups_of fun u hu => k u (List.mem_cons_of_mem _ hu)
    obtain ⟨l, a, us, e, ⟨o, ho, hc, n, hd⟩, ne, it⟩ := k v List.mem_cons_self
    match hu : us.toList, ne with
    | f :: r, _ =>
      have h0 : us[0]? = some f := by
        rw [← Array.getElem?_toList, hu]
        rfl
      refine ⟨f :: fs, .cons ⟨a, o, us, n, e, ho, hc, hd, h0, fun hs => ?_, fun hs => ?_⟩ t, by rw [List.length_cons, List.length_cons, hl]⟩
      · rw [hu] at it
        obtain ⟨n, t, _, z, _⟩ := PyProof.Rows.tupItems_int hs it
        exact ⟨n, t, z⟩
      · rw [hu] at it
        obtain ⟨n, t, _, z, _⟩ := PyProof.Rows.tupItems_str hs it
        exact ⟨n, t, z⟩
section
variable {X : Cx}
theorem rowK_tup {pins : List (Addr × Obj)} {σ : St} {H : Hp} {s : Shared} {sh : Nat → Bool} (I : Inv X pins σ H s) : ∀ {xs : List V} {ls : List Ky} {us : List Value}, Paired (RowK X.K H sh) xs ls → Vals xs us → Paired (fun u l => TupK s.heap sh u l) us ls
  | _, _, _, .nil, .nil => .nil
  | _, _, _, .cons r t, .cons q w => by
    obtain ⟨t0, is, rfl, hq, ne, e⟩ := r
    obtain rfl := q
    obtain ⟨its, rv, it, _⟩ := I.tuple hq
    refine .cons ⟨t0, its.toArray, rfl, it, ?_, by simpa using itemsV_tup rv e⟩ (rowK_tup I t w)
    intro z
    have z2 : its = [] := by simpa using z
    subst z2
    cases rv
    exact ne rfl
theorem pair_up {R : Value → Ky → Prop} : ∀ {xs : List V} {ls : List Ky} {us : List Value}, Paired R us ls → Vals xs us → Paired (fun (p : V × Ky) u => RelV p.1 u ∧ R u p.2) (xs.zip ls) us
  | _, _, _, .nil, .nil => .nil
  | _, _, _, .cons r t, .cons q w => .cons ⟨q, r⟩ (pair_up t w)
theorem pair_fst {R : Value → Ky → Prop} : ∀ {ps : List (V × Ky)} {us : List Value}, Paired (fun (p : V × Ky) u => RelV p.1 u ∧ R u p.2) ps us → Vals (ps.map (·.1)) us
  | _, _, .nil => .nil
  | _, _, .cons r t => .cons r.1 (pair_fst t)
theorem cr_sortT : CallR X (.builtin "sorted") (rSortT X.K) := by
  intro pins s σ H vs us Q I r h
  obtain ⟨a, xs, ls, sh, rfl, hs, hk, q⟩ := h
  obtain ⟨its, rv, hl, hz⟩ := I.list hs
  rw [Vals.ref1 r]
  have tk := rowK_tup I hk rv
  have tm : ∀ v ∈ its, ∃ l, TupK s.heap sh v l := fun v hv => paired_mem tk v hv
  let kv : Value → Ky := fun v => (PyProof.Rows.tupKey s.heap sh v).getD []
  have O : SrtO.Swo fun v u => kLt (kv v) (kv u) := kLt_swo kv
  refine SrtO.sorted_ord (ltv := fun v u => kLt (kv v) (kv u)) O hl.isList (by rw [← rv.length]; exact hz) (fun h2 h₁ a' _ kk h' keep => ?_) fun out h1 h2 => ?_
  · have kp : ∀ b o, s.heap.get? b = some o → h'.get? b = some o := fun b o e => keep b o (kk b o e).1 (kk b o e).2
    refine ⟨PyProof.Rows.tuples' true, fun Q E hq => ?_, fun p q hp hq => ?_⟩
    · obtain ⟨fs, t, hl⟩ := tups_of (h := h') fun v hv => (let ⟨l, k⟩ := tm v hv; ⟨l, k.keeps kp⟩)
      exact PyProof.Rows.tup_kind (s := { s with heap := h' }) (by omega) t hq
    · obtain ⟨l1, k1⟩ := tm _ hp
      obtain ⟨l2, k2⟩ := tm _ hq
      have e1 : kv p.1 = l1 := by
        show (PyProof.Rows.tupKey s.heap sh p.1).getD [] = l1
        rw [k1.key]
        rfl
      have e2 : kv q.1 = l2 := by
        show (PyProof.Rows.tupKey s.heap sh q.1).getD [] = l2
        rw [k2.key]
        rfl
      obtain ⟨t1, us1, z1, ⟨o1, ho1, _, n1, hd1⟩, _, it1⟩ := k1
      obtain ⟨t2, us2, z2, ⟨o2, ho2, _, n2, hd2⟩, _, it2⟩ := k2
      show wpAny (model X.prog X.w) _ (PyProof.Rows.keyLt' (PyProof.Rows.tuples' true) p.1 q.1) (fun r s' => s' = _ ∧ r = kLt (kv p.1) (kv q.1)) (fun _ _ => False) _
      rw [e1, e2, z1, z2]
      exact PySem.W.kat_lt (kp _ _ ho1) hd1 (kp _ _ ho2) hd2 (PyProof.Rows.tup_lex us1.toList us2.toList 0 l1 l2 it1 it2 (by rw [Array.length_toList, Array.length_toList]) ⟨rfl, rfl⟩)
  · have ho : out = isortB (fun v u => kLt (kv v) (kv u)) its := SrtO.stb_uniq O h1 (isortB_srtd O its) (h2.trans ⟨(isortB_stb O its).perm.symm, fun w => ((isortB_stb O its).cls w).symm⟩)
    obtain ⟨ep, he'⟩ := PyProof.Rows.sortedAll_at s.heap its out.toArray
    have rel : Vals (sortBy xs ls) out := by
      rw [ho]
      refine pair_fst (R := fun u l => TupK s.heap sh u l) (isortB_rel (fun p u p' u' r1 r2 => ?_) (pair_up tk rv))
      show kLt p.2 p'.2 = kLt ((PyProof.Rows.tupKey s.heap sh u).getD []) ((PyProof.Rows.tupKey s.heap sh u').getD [])
      rw [r1.2.key, r2.2.key]
      rfl
    have hlen : (sortBy xs ls).length ≤ sizeLine := by
      rw [rel.length, h2.perm.length_eq, ← rv.length]
      exact hz
    exact ⟨.ref _, upd H (s.heap.objs.size + 1) (.lst (sortBy xs ls)), I.laid (t' := s.toks) (fun _ _ => PyProof.Rows.sortedAll_old) (Nat.le_succ _) ⟨hlen, out, ep, rel, he'⟩, rfl, q _ (I.hok.fresh (Nat.le_succ _))⟩
end

/-! ### sorted of tuples of ints and texts -/
def itemKD : D → Int ⊕ List Nat
  | .int i => .inl i
  | .str s => .inr s.cps.toList
  | _ => .inl 0
def keyTD : D → Ky
  | .tup _ xs => xs.map itemKD
  | _ => []
def shOk (sh : Nat → Bool) : Nat → List D → Bool
  | _, [] => true
  | i, .int _ :: r => !sh i && shOk sh (i + 1) r
  | i, .str _ :: r => sh i && shOk sh (i + 1) r
  | _, _ :: _ => false
def isStrAt (xs : List D) (i : Nat) : Bool := match xs[i]? with
  | some (.str _) => true
  | _ => false
def tupShape : List D → Nat → Bool
  | .tup _ xs :: _ => isStrAt xs
  | _ => fun _ => false
def okTup (sh : Nat → Bool) : D → Bool
  | .tup false xs => !xs.isEmpty && shOk sh 0 xs
  | _ => false
def ltTD (d e : D) : Bool := kLt (keyTD d) (keyTD e)
def sortTD : List D → Option D
  | [.lst _ ds] => if ds.all (okTup (tupShape ds)) = true then some (.lst true (isortB ltTD ds)) else none
  | _ => none
section
variable {U : Wd} {F H : Hp}
theorem shOk_items {sh : Nat → Bool} : ∀ {vs : List V} {ds : List D} {i : Nat}, RpL U F H vs ds [] → shOk sh i ds = true → itemsV sh i vs = some (ds.map itemKD) ∧ frozenL ds = true
  | [], ds, i, l, h => by
    cases l
    exact ⟨rfl, rfl⟩
  | v :: vs, [], i, l, h => absurd l.len (by simp)
  | v :: vs, d :: ds, i, l, h => by
    obtain ⟨w, t⟩ := l.uncons0
    cases d with
    | int n =>
      obtain ⟨rfl, _⟩ := rp_int w
      simp only [shOk, Bool.and_eq_true, Bool.not_eq_true'] at h
      obtain ⟨e, f⟩ := shOk_items t h.2
      refine ⟨?_, by simp [frozenL, D.frozen, f]⟩
      show (if sh i = true then none else (itemsV sh (i + 1) vs).map (Sum.inl n :: ·)) = _
      rw [h.1, if_neg Bool.false_ne_true, e]
      rfl
    | str x =>
      obtain ⟨rfl, _⟩ := rp_str w
      simp only [shOk, Bool.and_eq_true] at h
      obtain ⟨e, f⟩ := shOk_items t h.2
      refine ⟨?_, by simp [frozenL, D.frozen, f]⟩
      show (if sh i = true then (itemsV sh (i + 1) vs).map (Sum.inr x.cps.toList :: ·) else none) = _
      rw [h.1, if_pos rfl, e]
      rfl
    | non => simp [shOk] at h
    | bl _ => simp [shOk] at h
    | scr _ => simp [shOk] at h
    | tup _ _ => simp [shOk] at h
    | lst _ _ => simp [shOk] at h
    | dct _ _ _ => simp [shOk] at h
theorem okTup_row {sh : Nat → Bool} {x : V} {d : D} (g : Fle F H) (w : Rp U F H x d []) (h : okTup sh d = true) : RowK U.K H sh x (keyTD d) := by
  cases d with
  | tup o xs =>
    cases o with
    | true => simp [okTup] at h
    | false =>
      simp only [okTup, Bool.and_eq_true, Bool.not_eq_true'] at h
      generalize e0 : ([] : List Addr) = z at w
      cases w with
      | @tupS a vs _ hq l =>
        obtain ⟨e, _⟩ := shOk_items l h.2
        refine ⟨a, vs, rfl, g.seqT hq, fun z => ?_, e⟩
        subst z
        cases l
        simp at h
  | non => simp [okTup] at h
  | bl _ => simp [okTup] at h
  | int _ => simp [okTup] at h
  | str _ => simp [okTup] at h
  | scr _ => simp [okTup] at h
  | lst _ _ => simp [okTup] at h
  | dct _ _ _ => simp [okTup] at h
theorem okTup_frozen {sh : Nat → Bool} : ∀ {ds : List D}, ds.all (okTup sh) = true → frozenL ds = true
  | [], _ => rfl
  | d :: ds, h => by
    simp only [List.all_cons, Bool.and_eq_true] at h
    rw [frozenL, okTup_frozen h.2, Bool.and_true]
    cases d with
    | tup o xs =>
      cases o with
      | true => simp [okTup] at h
      | false =>
        simp only [okTup, Bool.and_eq_true] at h
        simp only [D.frozen, Bool.not_false, Bool.true_and]
        have : ∀ {xs : List D} {i : Nat}, shOk sh i xs = true → frozenL xs = true := fun {xs} => by
          induction xs with
          | nil => intro _ _; rfl
          | cons d xs ih =>
            intro i hh
            cases d <;> simp only [shOk, Bool.and_eq_true] at hh <;> first | exact absurd hh Bool.false_ne_true | (simp only [frozenL, D.frozen, Bool.true_and]; exact ih hh.2)
        exact this h.1.2
    | non => simp [okTup] at h
    | bl _ => simp [okTup] at h
    | int _ => simp [okTup] at h
    | str _ => simp [okTup] at h
    | scr _ => simp [okTup] at h
    | lst _ _ => simp [okTup] at h
    | dct _ _ _ => simp [okTup] at h
theorem rows_of {sh : Nat → Bool} (g : Fle F H) : ∀ {vs : List V} {ds : List D}, RpL U F H vs ds [] → ds.all (okTup sh) = true → Paired (RowK U.K H sh) vs (ds.map keyTD)
  | [], ds, l, h => by
    cases l
    exact .nil
  | v :: vs, [], l, h => absurd l.len (by simp)
  | v :: vs, d :: ds, l, h => by
    obtain ⟨w, t⟩ := l.uncons0
    simp only [List.all_cons, Bool.and_eq_true] at h
    exact .cons (okTup_row g w h.1) (rows_of g t h.2)
theorem zip_keys : ∀ {vs : List V} {ds : List D}, RpL U F H vs ds [] → Paired (fun (p : V × Ky) d => Rp U F H p.1 d [] ∧ p.2 = keyTD d) (vs.zip (ds.map keyTD)) ds
  | [], ds, l => by
    cases l
    exact .nil
  | v :: vs, [], l => absurd l.len (by simp)
  | v :: vs, d :: ds, l => by
    obtain ⟨w, t⟩ := l.uncons0
    exact .cons ⟨w, rfl⟩ (zip_keys t)
theorem unzip_rp : ∀ {ps : List (V × Ky)} {ds : List D}, Paired (fun (p : V × Ky) d => Rp U F H p.1 d [] ∧ p.2 = keyTD d) ps ds → RpL U F H (ps.map (·.1)) ds []
  | _, _, .nil => .nil
  | _, _, .cons r t => .cons0 r.1 (unzip_rp t)
theorem ok_sortT : OkN U (rSortT U.K) sortTD := fun F H xs ds d Q g w0 e k => by
  unfold sortTD at e
  split at e
  · rename_i o es
    split at e
    · rename_i hs
      cases e
      obtain ⟨v, c, rfl, w⟩ := p1 w0
      obtain ⟨a, vs, rfl, hq, l⟩ := lst0 g w (okTup_frozen hs)
      refine ⟨a, vs, es.map keyTD, _, rfl, .of hq, rows_of g.le l hs, fun p hp => ?_⟩
      refine new_list g (unzip_rp (isortB_rel (fun p d p' d' r1 r2 => ?_) (zip_keys l))) k p hp
      show kLt p.2 p'.2 = kLt (keyTD d) (keyTD d')
      rw [r1.2, r2.2]
    · cases e
  · cases e
end

/-! ### repr([..]): the parts stay where they are -/
theorem dp_of {U : Wd} {F H : Hp} (g : Fle F H) : ∀ {vs : List V} {ds : List D}, RpP U F H vs ds → plainL ds = true → DpAll U.K H vs (toPL ds)
  | _, _, .nil, _ => .nil
  | _, _, .cons (a := v) (b := d) r t, h => by
    rw [plainL, Bool.and_eq_true] at h
    obtain ⟨c, w⟩ := r
    exact .cons (w.dp g h.1) (dp_of g t h.2)
def reprL (m : Hx) : Ex := fun E => match m E with
  | some (hs, E1) => match drL E1 hs with
    | some ds => if lineOk ds.length = true then (if okShow (.lst true ds) = true then some (.str (D.lst true ds).toP.shown, E1) else none) else none
    | none => none
  | none => none
section
variable {X : Cx} {es : List Expr} {m : Hx} {k j : Nat} {p pos lp : Pos}
theorem paired_len {α β : Type} {R : α → β → Prop} : ∀ {as : List α} {bs : List β}, Paired R as bs → as.length = bs.length
  | _, _, .nil => rfl
  | _, _, .cons _ t => by rw [List.length_cons, List.length_cons, paired_len t]
theorem mv_reprL (hr : Room k X.A) (gd : X.A.guards = some []) (hg : Gl X "repr") (hm : X.mg "repr" = none) (ha : PA X es (tH (ux X) m))
    (he : starEach [.List es lp] X.env = [(false, eval (.List es lp) X.env)] := by rfl) (hpl : (backTo pos (starEach [] X.env)).any (·.1) = false := by rfl) :
    PE X (.Call (.Name "repr" p) [.List es lp] [] pos) (tM (ux X) (reprL m)) :=
  pe_mono (pe_callB (call_repr hr gd) hg hm (by decide +kernel) (pa_cons (pe_lst ha) pa_nil he) (by decide) (by decide) he hpl) fun σ H Q q => by
    obtain ⟨E, F, as, d, E', g, r, e, q⟩ := q
    unfold reprL at e
    split at e
    · rename_i hs E1 e1
      split at e
      · rename_i ds e2
        split at e
        · rename_i e3
          split at e
          · rename_i e4
            cases e
            refine ⟨E, F, as, hs, E', g, r, e1, fun vs F1 H1 b1 as1 s1 r1 w1 => ?_⟩
            have pp := w1.now r1 e2
            refine ⟨by rw [paired_len pp]; exact of_decide_eq_true e3, fun a ha => ?_⟩
            unfold okShow at e4
            simp only [Bool.and_eq_true, decide_eq_true_eq] at e4
            obtain ⟨⟨⟨h1, h2⟩, h3⟩, h4⟩ := e4
            have t := Step.alloc (o := .lst vs) s1.good.zero ha
            obtain ⟨s2, r2⟩ := fin s1.right r1 t
            have pp2 : RpP (ux X) F1 (upd H1 a (.lst vs)) vs ds := by
              have : ∀ {vs : List V} {ds : List D}, RpP (ux X) F1 H1 vs ds → RpP (ux X) F1 (upd H1 a (.lst vs)) vs ds → True := fun _ _ => trivial
              have mono : ∀ {ws : List V} {ds : List D}, RpP (ux X) F1 H1 ws ds → RpP (ux X) F1 (upd H1 a (.lst vs)) ws ds := by
                intro ws ds h
                induction h with
                | nil => exact .nil
                | cons r t ih =>
                  obtain ⟨c, w⟩ := r
                  refine .cons ⟨c, w.mono (Fle.refl _) fun b z => upd_ne fun q => ?_⟩ ih
                  exact w.there b z (q ▸ ha)
              exact mono pp
            have pl : plainL ds = true := by simpa [D.plain] using h1
            exact ⟨.ref a, _, rfl, Dp.lst (.of upd_same) (dp_of s2.good.le pp2 pl), h2, h3, h4, q _ F1 _ [] as1 s2.right r2 (.str _)⟩
          · cases e
        · cases e
      · cases e
    · cases e
end
end MP

/-! Mirror layer, part 10: calls by name, an item taken out, the way in. -/
namespace MP
open PySem PySem.Spec L2

/-! ### arguments in another sequence -/
def pick {α : Type} (pm : List Nat) (l : List α) : List α := pm.filterMap fun i => l[i]?
theorem range_pick {α : Type} (l : List α) : (List.range l.length).filterMap (fun i => l[i]?) = l := by
  induction l with
  | nil => rfl
  | cons x l ih =>
    rw [List.length_cons, List.range_succ_eq_map, List.filterMap_cons]
    simp only [List.getElem?_cons_zero, List.filterMap_map]
    congr 1
theorem pick_perm {α : Type} {pm : List Nat} {l : List α} (h : pm.Perm (List.range l.length)) : (pick pm l).Perm l := by
  have := h.filterMap fun i => l[i]?
  rw [range_pick] at this
  exact this
theorem pick_map {α β : Type} (f : α → β) (pm : List Nat) (l : List α) : pick pm (l.map f) = (pick pm l).map f := by
  unfold pick
  rw [List.map_filterMap]
  congr 1
  funext i
  rw [List.getElem?_map]
section
variable {U : Wd} {F H : Hp} {σ : Sl}
theorem RpHL.len : ∀ {vs : List V} {hs : List Hd} {as : List Addr}, RpHL U F H σ vs hs as → vs.length = hs.length
  | _, _, _, .nil => rfl
  | _, _, _, .cons _ t => by rw [List.length_cons, List.length_cons, t.len]
theorem RpHL.rows : ∀ {vs : List V} {hs : List Hd} {as : List Addr}, RpHL U F H σ vs hs as → ∃ L : List (V × Hd × List Addr), (∀ t ∈ L, RpH U F H σ t.1 t.2.1 t.2.2) ∧ vs = L.map (·.1) ∧ hs = L.map (·.2.1) ∧ as = (L.map (·.2.2)).flatten
  | _, _, _, .nil => ⟨[], ⟨fun _ z => (nomatch z), rfl, rfl, rfl⟩⟩
  | _, _, _, .cons (v := v) (h := h) (as := as) q t => by
    obtain ⟨L, h1, h2, h3, h4⟩ := t.rows
    refine ⟨(v, h, as) :: L, fun t z => ?_, by rw [h2]; rfl, by rw [h3]; rfl, by rw [h4]; rfl⟩
    rcases List.mem_cons.mp z with e | z
    · rw [e]
      exact q
    · exact h1 t z
theorem RpHL.ofRows : ∀ {L : List (V × Hd × List Addr)}, (∀ t ∈ L, RpH U F H σ t.1 t.2.1 t.2.2) → RpHL U F H σ (L.map (·.1)) (L.map (·.2.1)) (L.map (·.2.2)).flatten
  | [], _ => .nil
  | t :: L, h => .cons (h t List.mem_cons_self) (RpHL.ofRows fun u z => h u (List.mem_cons_of_mem _ z))
theorem RpHL.pick {vs : List V} {hs : List Hd} {as : List Addr} {pm : List Nat} (q : RpHL U F H σ vs hs as) (h : pm.Perm (List.range hs.length)) : ∃ bs, RpHL U F H σ (pick pm vs) (pick pm hs) bs ∧ as.Perm bs := by
  obtain ⟨L, h1, rfl, rfl, rfl⟩ := q.rows
  have p := pick_perm (l := L) (by simpa using h)
  rw [pick_map, pick_map]
  exact ⟨_, RpHL.ofRows fun t z => h1 t (p.mem_iff.mp z), ((p.map (·.2.2)).flatten).symm⟩
theorem RpHL.app {ws : List V} {ks : List Hd} {bs : List Addr} (k : RpHL U F H σ ws ks bs) : ∀ {vs : List V} {hs : List Hd} {as : List Addr}, RpHL U F H σ vs hs as → RpHL U F H σ (vs ++ ws) (hs ++ ks) (as ++ bs)
  | _, _, _, .nil => k
  | _, _, _, .cons q t => by
    rw [List.append_assoc]
    exact .cons q (k.app t)
end
/-- n places, m names, put in the sequence pm -/
def hPick (n m : Nat) (pm : List Nat) (a b : Hx) : Hx := fun E => match a E with
  | some (hs, E1) => match b E1 with
    | some (ks, E2) => if (hs.length == n && ks.length == m && pm.isPerm (List.range (hs ++ ks).length)) = true then some (pick pm (hs ++ ks), E2) else none
    | none => none
  | none => none
theorem hPick_reads {U : Wd} {n m : Nat} {pm : List Nat} {a b : Hx} {σ : Sl} {H : Hp} {Q : List V → Hp → Prop} (q : tH U (hPick n m pm a b) σ H Q) :
    tH U a σ H fun vs H1 => tH U b σ H1 fun zs H2 => vs.length = n ∧ zs.length = m ∧ Q (pick pm (vs ++ zs)) H2 := by
  obtain ⟨E, F, as, d, E', g, rE, e, q⟩ := q
  unfold hPick at e
  split at e
  · rename_i hs E1 e1
    split at e
    · rename_i ks E2 e2
      split at e
      · rename_i hc
        cases e
        simp only [Bool.and_eq_true, beq_iff_eq] at hc
        obtain ⟨⟨c1, c2⟩, c3⟩ := hc
        refine ⟨E, F, as, hs, E1, g, rE, e1, fun vs F1 H1 b1 as1 s1 r1 w1 => ?_⟩
        refine ⟨E1, F1, as1, ks, E', s1.right.good, r1, e2, fun zs F2 H2 b2 as2 s2 r2 w2 => ?_⟩
        have s3 : Step F H as F2 H2 (b1 ++ (b2 ++ as2)) := s1.seq s2
        have w3 : RpHL U F2 H2 σ (vs ++ zs) (hs ++ ks) (b1 ++ b2) := w2.app (w1.mono s2.ext (Step.wait s1 s2))
        obtain ⟨bs, w4, p⟩ := w3.pick (List.isPerm_iff.mp c3)
        refine ⟨w1.len.trans c1, w2.len.trans c2, q _ F2 H2 bs as2 (s3.perm ?_) r2 w4⟩
        rw [← List.append_assoc]
        exact p.append_right as2
      · cases e
    · cases e
  · cases e
/-- how names and places bind -/
def KB (K : PySem.W.Frag) (fd : FuncData) (ps ks : List Str) (n : Nat) (pm : List Nat) : Prop := ∀ (s : Shared) (us ws : List Value), K.In s.heap → us.length = n → ws.length = ks.length → BindsTo s fd ⟨us, ks.zip ws⟩ (ps.zip (pick pm (us ++ ws)))
section
variable {X : Cx} {e : Expr} {es : List Expr} {kws : List Keyword} {pos p : Pos} {k n : Nat} {f : Addr} {fd : FuncData} {ps ks : List Str} {mf : Fm} {m mk : Hx} {x : Str} {pm : List Nat}
theorem Vals.pick {vs : List V} {us : List Value} (r : Vals vs us) (pm : List Nat) : Vals (MP.pick pm vs) (MP.pick pm us) := by
  induction pm with
  | nil => exact .nil
  | cons i pm ih =>
    unfold MP.pick at ih ⊢
    rw [List.filterMap_cons, List.filterMap_cons]
    cases e : vs[i]? with
    | none =>
      have : us[i]? = none := by
        rw [List.getElem?_eq_none_iff] at e ⊢
        rw [← r.length]
        exact e
      rw [this]
      exact ih
    | some v =>
      obtain ⟨u, e2, r2⟩ := Vals.get r e
      rw [e2]
      exact .cons r2 ih
/-- f(k = v, ..) -/
theorem mv_callK0 (G : FnG X.prog X.w X.K X.mg X.base k f fd ps mf) (hr : Room k X.A) (gd : X.A.guards = some []) (hg : Gl X x) (hm : X.mg x = some (.ref f)) (hk : PySem.W.keepIn X.K (.ref f) = true) (hb : KB X.K fd ps ks 0 pm)
    (hkw : PK X kws (tH (ux X) mk)) (hall : (backToKw pos (keywordEach kws X.env)).all (·.1.isSome) = true := by rfl) (hks : (backToKw pos (keywordEach kws X.env)).filterMap (·.1) = ks := by rfl) (hdb : (x == ("__debug__" : Str)) = false := by decide)
    (hpl : ((backTo pos (starEach [] X.env)).any (·.1) || (backToKw pos (keywordEach kws X.env)).any (·.1.isNone)) = false := by rfl) :
    PE X (.Call (.Name x p) [] kws pos) (tM (ux X) (xCall mf (hPick 0 ks.length pm hNil mk))) :=
  ⟨fun pins s σ H Q I q => wpAny_Call_Name_kw (ld_glob I hg hm (PySem.W.callWith_KW0 (h₀ := X.base) I.ok.mod.kin hk hall (by
    have z := hNil_reads (hPick_reads (call_reads (E0 := E0) q))
    refine thn (hkw.run pos pins s σ H _ I z) fun ws s2 ⟨zs, H2, I2, rz, _, z2, z3⟩ => ⟨I2.kIn, ?_⟩
    rw [hks]
    have hb1 := hb s2 [] ws I2.kIn rfl (by rw [← rz.length]; exact z2)
    exact run_G G hr gd I2 hb1 (Vals.pick rz pm) z3) hpl) hdb)⟩
/-- f(e, .., k = v, ..) -/
theorem mv_callK (G : FnG X.prog X.w X.K X.mg X.base k f fd ps mf) (hr : Room k X.A) (gd : X.A.guards = some []) (hg : Gl X x) (hm : X.mg x = some (.ref f)) (hk : PySem.W.keepIn X.K (.ref f) = true) (hb : KB X.K fd ps ks n pm)
    (ha : PA X (e :: es) (tH (ux X) m)) (hkw : PK X kws (tH (ux X) mk)) (hall : (backToKw pos (keywordEach kws X.env)).all (·.1.isSome) = true := by rfl) (hks : (backToKw pos (keywordEach kws X.env)).filterMap (·.1) = ks := by rfl)
    (hdb : (x == ("__debug__" : Str)) = false := by decide) (he : starEach (e :: es) X.env = (false, eval e X.env) :: starEach es X.env := by rfl)
    (hpl : ((backTo pos (starEach (e :: es) X.env)).any (·.1) || (backToKw pos (keywordEach kws X.env)).any (·.1.isNone)) = false := by rfl) :
    PE X (.Call (.Name x p) (e :: es) kws pos) (tM (ux X) (xCall mf (hPick n ks.length pm m mk))) :=
  ⟨fun pins s σ H Q I q => wpAny_Call_Name_kw (ld_glob I hg hm (PySem.W.callWith_KW (h₀ := X.base) I.ok.mod.kin hk hall (by
    have z := hPick_reads (call_reads (E0 := E0) q)
    refine thn (ha.run pos pins s σ H _ I z) fun us s1 ⟨vs, H1, I1, r, z⟩ => ?_
    refine thn (hkw.run pos pins s1 σ H1 _ I1 z) fun ws s2 ⟨zs, H2, I2, rz, z1, z2, z3⟩ => ⟨I2.kIn, ?_⟩
    rw [hks]
    have hb1 := hb s2 us ws I2.kIn (by rw [← r.length]; exact z1) (by rw [← rz.length]; exact z2)
    exact run_G G hr gd I2 hb1 (Vals.pick (Vals.append r rz) pm) z3) hpl he) hdb)⟩
/-- f() -/
theorem mv_call0 (G : FnG X.prog X.w X.K X.mg X.base k f fd ps mf) (hr : Room k X.A) (gd : X.A.guards = some []) (hg : Gl X x) (hm : X.mg x = some (.ref f)) (hk : PySem.W.keepIn X.K (.ref f) = true) (hb : Binds X.K fd ps [])
    (hdb : (x == ("__debug__" : Str)) = false := by decide) : PE X (.Call (.Name x p) [] [] pos) (tM (ux X) (xCall mf hNil)) :=
  ⟨fun pins s σ H Q I q => wpAny_Call_Name_kw (ld_glob I hg hm (PySem.W.callWith_K0 I.kIn hk (by
    have z := hNil_reads (call_reads (E0 := E0) q)
    have hl : (([] : List Value) ++ []).length = ps.length := spM_len (E := E0) (vs := []) G.len z
    have hb1 := hb s [] I.kIn hl
    exact run_G G hr gd I (us := []) (vs := []) hb1 .nil z)) hdb)⟩
end

/-! ### an item taken out of what nobody else holds -/
def partsD : D → Option (List D)
  | .lst _ ds => some ds
  | .tup _ ds => some ds
  | _ => none
def ixOwn (m : Ex) (mi : Ox) : Ex := fun E => match m E with
  | some (d, E1) => match mi E1 with
    | some (h, E2) => match partsD d, dr E2 h with
      | some ds, some (.int i) => match atI ds i with
        | some r => some (r, E2)
        | none => none
      | _, _ => none
    | none => none
  | none => none
section
variable {U : Wd} {F H : Hp}
theorem RpL.getPerm : ∀ {vs : List V} {ds : List D} {as : List Addr} {i : Nat} {d : D}, RpL U F H vs ds as → ds[i]? = some d → ∃ v bs rest, vs[i]? = some v ∧ Rp U F H v d bs ∧ as.Perm (bs ++ rest)
  | _, _, _, 0, d, .cons (d := d') (as := a1) (bs := a2) h t, e => by
    simp only [List.getElem?_cons_zero, Option.some.injEq] at e
    subst e
    exact ⟨_, a1, a2, rfl, h, List.Perm.refl _⟩
  | _, _, _, i + 1, d, .cons (as := a1) (bs := a2) h t, e => by
    obtain ⟨v, bs, rest, h1, h2, h3⟩ := RpL.getPerm (i := i) t (by simpa using e)
    refine ⟨v, bs, a1 ++ rest, by simpa using h1, h2, (h3.append_left a1).trans ?_⟩
    rw [← List.append_assoc, ← List.append_assoc]
    exact List.perm_append_comm.append_right rest
  | _, _, _, i, d, .nil, e => by simp at e
theorem parts_now {v : V} {d : D} {as : List Addr} {ds : List D} (g : Fle F H) (w : Rp U F H v d as) (e : partsD d = some ds) : ∃ a vs bs xs, v = .ref a ∧ (SqL U.K H a vs ∨ SqT U.K H a vs) ∧ RpL U F H vs ds bs ∧ as.Perm (xs ++ bs) := by
  cases w with
  | lstS h l =>
    cases e
    exact ⟨_, _, [], [], rfl, .inl (.inl (.inl (g _ _ h))), l, List.Perm.refl _⟩
  | @lstO a vs _ bs h l =>
    cases e
    exact ⟨a, _, bs, [a], rfl, .inl (.inl (.inl h)), l, List.Perm.refl _⟩
  | tupS h l =>
    cases e
    exact ⟨_, _, [], [], rfl, .inr (g.seqT h), l, List.Perm.refl _⟩
  | @tupO a vs _ bs h l =>
    cases e
    exact ⟨a, _, bs, [a], rfl, .inr (.inl (.inl h)), l, List.Perm.refl _⟩
  | non => cases e
  | bl _ => cases e
  | int _ => cases e
  | str _ => cases e
  | scr _ => cases e
  | dctS _ _ => cases e
  | dctO _ _ => cases e
theorem ixOwn_reads {m : Ex} {mi : Ox} {σ : Sl} {Q : VK} (q : tM U (ixOwn m mi) σ H Q) : tOp (rIx U.K) (tM U m) (tO U mi) σ H Q := by
  obtain ⟨E, F, as, d, E', g, rE, e, q⟩ := q
  unfold ixOwn at e
  split at e
  · rename_i d1 E1 e1
    split at e
    · rename_i h E2 e2
      split at e
      · rename_i ds i e3 e4
        split at e
        · rename_i r e5
          cases e
          refine ⟨E, F, as, d1, E1, g, rE, e1, fun v F1 H1 b1 as1 s1 r1 w1 => ?_⟩
          refine ⟨E1, F1, as1, h, E', s1.right.good, r1, e2, fun y F2 H2 c2 as2 s2 r2 q2 => ?_⟩
          have s3 : Step F H as F2 H2 (b1 ++ (c2 ++ as2)) := s1.seq s2
          obtain ⟨z, wy⟩ := q2.now r2 e4
          obtain ⟨rfl, _⟩ := rp_int wy
          obtain ⟨a, vs, bs, xs, rfl, sq, l, pa⟩ := parts_now s3.good.le (w1.mono s2.ext (Step.wait s1 s2)) e3
          obtain ⟨j, j1, j2⟩ := atI_get l.len e5
          obtain ⟨vj, bj, rest, k1, k2, k3⟩ := l.getPerm j1
          have p2 : (b1 ++ (c2 ++ as2)).Perm ((xs ++ rest ++ c2) ++ (bj ++ as2)) := List.perm_iff_count.mpr fun a => by
            have h1 := pa.count_eq a
            have h2 := k3.count_eq a
            simp only [List.count_append] at h1 h2 ⊢
            omega
          have fin2 := q vj F2 H2 bj as2 (s3.perm p2).right r2 k2
          rcases sq with sq | sq
          · exact .inl ⟨a, vs, _, vj, rfl, rfl, sq, j2 vj k1, fin2⟩
          · exact .inr (.inl ⟨a, vs, _, vj, rfl, rfl, sq, j2 vj k1, fin2⟩)
        · cases e
      · cases e
    · cases e
  · cases e
end
section
variable {X : Cx} {a b : Expr} {pos : Pos} {m : Ex} {mi : Ox}
theorem mv_ixOwn (ha : PE X a (tM (ux X) m)) (hb : PE X b (tO (ux X) mi)) (hs : PlainIx b := by exact fun _ _ => rfl) : PE X (.Subscript a b pos) (tM (ux X) (ixOwn m mi)) := pe_mono (pe_ix ix_seq ha hb hs) fun _ _ _ q => ixOwn_reads q
end
end MP

/-! Mirror layer, part 11: from the law's mirror to the head's walk. -/
namespace MP
open PySem PySem.Spec L2

/-- what a law's mirror answers -/
def Says (mf : Fm) (n : Nat) : Prop := ∀ ns : List Int, ns.length ≤ n → ∃ fs, mf [.scr ns] = some (.bl true, fs)
theorem says_sp {U : Wd} {mf : Fm} {n : Nat} (h : Says mf n) {H : Hp} {a : Addr} {ns : List Int} (hn : ns.length ≤ n) (hs : SqL U.K H a (ns.map V.int)) {E : XK} : spM U mf [.ref a] H (fun v _ => v = .bl true) E := by
  obtain ⟨fs, e⟩ := h ns hn
  exact ⟨H, [.scr ns], [], .bl true, fs, ⟨Fle.refl H, List.nodup_nil, fun _ z => (nomatch z), fun _ z => (nomatch z)⟩, .cons0 (.scr hs) .nil, e, fun v F' H' bs cs _ w _ => (rp_bl w).1⟩
theorem rel_ints : ∀ {us : List Value} {ns : List Int}, PyProof.Rows.IntsAre us ns → Vals (ns.map V.int) us
  | _, _, .nil => .nil
  | _, _, .cons i t r => .cons ⟨t, rfl⟩ (rel_ints r)

section
variable {P : Program} {w : World} {K : PySem.W.Frag} {mg mb : Str → Option Value} {k n : Nat} {fa a : Addr} {fd : FuncData} {x : Str} {mf : Fm} {z : Shared} {us : List Value} {ns : List Int}
abbrev Done (z : Shared) : Result → Shared → Prop := fun r y => r = .ok (.ret (.bool true)) ∧ OldK z.heap y.heap ∧ y.os = z.os ∧ PyProof.Rows.AllBare y.gens
/-- behind the top, by an abstract heap that has at most the script -/
theorem into (G : Heap → K.In z.heap → Prop) (KX : K.In z.heap) (gl : z.heap.Ns mainGlobals mg) (bl : z.heap.Ns builtinsNs mb) (bb : ∀ y : Str, y ≠ "__name__" → mb y = bootBuiltins y) (li : z.heap.NoLimit) (ge : z.gens = #[])
    (ob : z.heap.get? a = some { cls := .type "list", data := .seq us.toArray }) (hr : Room k callerA) (hn : ns.length ≤ n)
    (F : ∀ base : Heap, K.In base → base.Ns mainGlobals mg → FnG P w K mg base k fa fd [x] mf) (bi : ∀ (s : Shared) (u : Value), BindsTo s fd ⟨[u], []⟩ [(x, u)]) (law : Says mf n)
    (H : Hp) (only : ∀ b, H b = none ∨ (b = a ∧ K.lookup a = none ∧ ∃ o xs, H b = some (.frz o (.lst xs)))) (sq : SqL K H a (ns.map V.int)) (hk : HOk P w H z.heap) :
    codeAny (model P w) callerA (.call (.ref fa) ⟨[.ref a], []⟩) (Done z) z := by
  have isA : ∀ {b}, H b ≠ none → b = a := fun {b} q => (only b).elim (fun e => absurd e q) fun e => e.1
  have free : ∀ {b} {o : Obj} {es : Array DictEntry} {ep : Nat}, z.heap.get? b = some o → o.data = .dict es ep → H b = none := by
    intro b o es ep e d
    rcases only b with q | ⟨rfl, _⟩
    · exact q
    · rw [ob] at e
      cases e
      have d' : Data.seq us.toArray _ = Data.dict es ep := d
      cases d'
  have ns' : ∀ {b : Addr} {m : Str → Option Value}, z.heap.Ns b m → (hidT z.heap H).Ns b m := fun {b m} ⟨o, es, ep, e, d, r⟩ => ⟨o, es, ep, hidT_get e (free e d), d, r⟩
  have kin : K.In (hidT z.heap H) := by
    intro b o e
    refine hidT_get (KX b o e) ?_
    rcases only b with q | ⟨rfl, q, _⟩
    · exact q
    · rw [q] at e
      cases e
  have mo : Mod K mg (hidT z.heap H) := ⟨kin, ns' gl, ⟨mb, ns' bl, bb⟩, let ⟨mc, l1, l2⟩ := li; ⟨mc, ns' l1, l2⟩⟩
  have en : Env0 P w K mg (hidT z.heap H) callerA [] z H :=
    ⟨rfl, mo, fun b o e => of_hidT e, Nat.le_of_eq (hidT_size _ _), trivial, fun b hb => absurd (show b ∈ ([] : List Addr) from hb) (by simp), hk, .of_eq ge⟩
  have run := (F _ kin (ns' gl)).run callerA [] z H ⟨[.ref a], []⟩ [.ref a] [.ref a] _ hr rfl en (bi z (.ref a)) (.cons rfl .nil) (says_sp (E := E0) law hn sq)
  refine codeAny_mono run fun r y got => ?_
  match r, got with
  | .error e, got => exact (show False from got).elim
  | .ok (.ret u), ⟨v, H', os, bare, un, hk', rv, q⟩ =>
    have q' : v = V.bl true := q
    subst q'
    obtain rfl : u = Value.bool true := rv
    refine ⟨rfl, OldK.of_keep fun b o e => ?_, os, bare⟩
    rcases only b with none' | ⟨_, _, ob', xs, fz⟩
    · exact un.keep b o e none' (fun c => absurd (show b ∈ ([] : List Addr) from c) (by simp)) (by simp)
    · obtain ⟨e1, _⟩ := hk b _ fz
      obtain ⟨e2, _⟩ := hk' b _ (un.frzs b ob' _ fz)
      rw [e] at e1
      cases e1
      exact e2
  | .ok .next, got => exact False.elim got
  | .ok .brk, got => exact False.elim got
  | .ok .cont, got => exact False.elim got
/-- the law's call -/
theorem entry (KX : K.In z.heap) (gl : z.heap.Ns mainGlobals mg) (bl : z.heap.Ns builtinsNs mb) (bb : ∀ y : Str, y ≠ "__name__" → mb y = bootBuiltins y) (li : z.heap.NoLimit) (ge : z.gens = #[])
    (ob : z.heap.get? a = some { cls := .type "list", data := .seq us.toArray }) (hi : PyProof.Rows.IntsAre us ns) (hr : Room k callerA) (hn : ns.length ≤ n) (n0 : n ≤ sizeLine)
    (F : ∀ base : Heap, K.In base → base.Ns mainGlobals mg → FnG P w K mg base k fa fd [x] mf) (bi : ∀ (s : Shared) (u : Value), BindsTo s fd ⟨[u], []⟩ [(x, u)]) (law : Says mf n) :
    codeAny (model P w) callerA (.call (.ref fa) ⟨[.ref a], []⟩) (Done z) z := by
  have vals := rel_ints hi
  have len : us.length = ns.length := hi.length
  have size : ns.length ≤ sizeLine := Nat.le_trans hn n0
  cases look : K.lookup a with
  | some o =>
    have e := KX a o look
    rw [ob] at e
    cases e
    exact into (fun _ _ => True) KX gl bl bb li ge ob hr hn F bi law (fun _ => none) (fun _ => .inl rfl)
      (.inr ⟨_, us.toArray, _, look, rfl, rfl, rfl, by rw [List.size_toArray, len]; exact size, by simpa using vals⟩) fun b u c => absurd (show (none : Option HO) = some u from c) (by simp)
  | none =>
    let obj : Obj := { cls := .type "list", data := .seq us.toArray }
    let H : Hp := fun b => if b = a then some (.frz obj (.lst (ns.map V.int))) else none
    refine into (fun _ _ => True) KX gl bl bb li ge ob hr hn F bi law H (fun b => ?_) (.inl (.inr ⟨obj, if_pos rfl⟩)) fun b u c => ?_
    · by_cases hb : b = a
      · exact .inr ⟨hb, look, obj, _, if_pos hb⟩
      · exact .inl (if_neg hb)
    · by_cases hb : b = a
      · have c' := (if_pos hb).symm.trans c
        cases c'
        subst hb
        exact ⟨ob, by rw [List.length_map]; exact size, us, _, vals, ob⟩
      · have c' := (if_neg hb).symm.trans c
        cases c'
end
/-- the goal that the head leaves, from the law's mirror -/
theorem walk_in {l : PySem.W.OpenLaw} {n k : Nat} {q : Program} {loose : List Str} {XP : (Str → Option Value) → Heap → Prop} {YP : World → Heap → Prop} {d : DefRec} {K : Params → PySem.W.Frag} {mf : Fm} {x : Str}
    (most : l.most = some n) (n0 : n ≤ sizeLine) (nodef : d.params.defaults = []) (hr : Room k callerA) (inK : ∀ (w : World) (h : Heap), YP w h → (K w.params).In h)
    (F : ∀ (w : World) (mg : Str → Option Value) (fa : Addr) (h : Heap), (K w.params).In h → h.Ns mainGlobals mg → mg d.name = some (.ref fa) →
      ∃ fd : FuncData, (∀ (s : Shared) (u : Value), BindsTo s fd ⟨[u], []⟩ [(x, u)]) ∧ ∀ base : Heap, (K w.params).In base → base.Ns mainGlobals mg → FnG l.prog w (K w.params) mg base k fa fd [x] mf)
    (law : Says mf n) : PySem.W.WalkO q loose XP YP l.row.toRowW d [] (fun f vs => PySem.call f vs) := by
  refine Att.attach_call most nodef fun w s0 z mg mb fa o pm cd doc a us ns G Y ho hd hcd hmg hobj hints hlen hg => ?_
  obtain ⟨fd, bi, Fb⟩ := F w mg fa _ (inK w _ Y) G.T.g hmg
  exact entry (inK w _ Y) G.T.g G.T.b G.T.builtins G.T.nolimit hg hobj hints hr hlen n0 Fb bi law
end MP

/-! Mirror layer, part 12: forms that look at what they get. -/
namespace MP
open PySem PySem.Spec L2

/-! ### a name: what is frozen stays, what is owned is handed on, or frozen -/
def xTk (i : Nat) : Ex := fun E => match E[i]? with
  | some (some d) => if d.frozen = true then some (d, E) else some (d, E.set i none)
  | _ => none
def xSh (i : Nat) : Ex := fun E => match E[i]? with
  | some (some d) => if d.frozen = true then some (d, E) else some (d.frz, E.set i (some d.frz))
  | _ => none
def xNo : Ex := fun _ => none
def altX (a b : Ex) : Ex := fun E => match a E with
  | some r => some r
  | none => b E
section
variable {X : Cx} {e : Expr} {pos : Pos} {x : Str} {i : Nat}
theorem peek_reads {U : Wd} {σ : Sl} {H : Hp} {Q : VK} {E : En} {F : Hp} {as : List Addr} {d : D} (g : Good F H as) (r : REnv U F H σ E as) (e : E[i]? = some (some d)) (hf : d.frozen = true)
    (q : ∀ v F' H' bs as', Step F H as F' H' (bs ++ as') → REnv U F' H' σ E as' → Rp U F' H' v d bs → Q v H') : tVar i σ H Q := by
  obtain ⟨v, a1, rest, h1, h2, p, r2⟩ := r.take e
  have := h2.nil_of hf
  subst this
  exact ⟨v, h1, q v F H [] as (Step.refl g) r h2⟩
theorem mv_tk (h : PE X (.Name x pos) (tVar i)) : PE X (.Name x pos) (tM (ux X) (xTk i)) := pe_mono h fun σ H Q q => by
  obtain ⟨E, F, as, d0, E', g, r, e, q⟩ := q
  unfold xTk at e
  split at e
  · rename_i d ed
    split at e
    · rename_i hf
      cases e
      exact peek_reads g r ed hf q
    · cases e
      obtain ⟨v, a1, rest, h1, h2, p, r2⟩ := r.take ed
      exact ⟨v, h1, q v F H a1 rest ((Step.refl g).perm p) r2 h2⟩
  · cases e
theorem mv_sh (h : PE X (.Name x pos) (tVar i)) : PE X (.Name x pos) (tM (ux X) (xSh i)) := pe_mono h fun σ H Q q => by
  obtain ⟨E, F, as, d0, E', g, r, e, q⟩ := q
  unfold xSh at e
  split at e
  · rename_i d ed
    split at e
    · rename_i hf
      cases e
      exact peek_reads g r ed hf q
    · cases e
      obtain ⟨v, a1, rest, h1, h2, p, r2⟩ := r.take ed
      have g2 := g.perm p
      have st := Step.freeze g2
      refine ⟨v, h1, q v _ H [] rest (st.permS p.symm) ?_ (Rp.freeze st.ext h2 fun a z => by simp [z])⟩
      have hi : i < E.length := (List.getElem?_eq_some_iff.mp ed).1
      have r3 := (r2.mono (F' := fun b => if b ∈ a1 then H b else F b) st.ext fun _ _ => rfl).putS (d := d.frz) (v := v) (a1 := []) (set_none_get hi) h1 (Rp.freeze st.ext h2 fun a z => by simp [z])
      rw [List.set_set] at r3
      exact r3
  · cases e
theorem mv_no : PE X e (tM (ux X) xNo) := ⟨fun pins s σ H Q I q => by
  obtain ⟨E, F, as, d, E', g, r, e, q⟩ := q
  cases e⟩
theorem mv_alt {a b : Ex} (ha : PE X e (tM (ux X) a)) (hb : PE X e (tM (ux X) b)) : PE X e (tM (ux X) (altX a b)) := ⟨fun pins s σ H Q I q => by
  obtain ⟨E, F, as, d, E', g, r, e, q⟩ := q
  unfold altX at e
  split at e
  · rename_i z ez
    cases e
    exact ha.run pins s σ H Q I ⟨E, F, as, d, E', g, r, ez, q⟩
  · exact hb.run pins s σ H Q I ⟨E, F, as, d, E', g, r, e, q⟩⟩
/-- an item: of what a name holds (it stays), or of what comes (it may be owned) -/
theorem mv_ixAny {a b : Expr} {m : Ex} {mi : Ox} (ha : PE X a (tM (ux X) m)) (hb : PE X b (tO (ux X) mi)) (hs : PlainIx b := by exact fun _ _ => rfl) : PE X (.Subscript a b pos) (tM (ux X) (altX (ixOwn m mi) (op2 ixD (oV m) mi))) := mv_alt (mv_ixOwn ha hb hs) (mv_ixD (ov ha) hb hs)
end

/-! ### what is walked -/
def mkAny : Mk
  | [.lst o ds] => mkLst [.lst o ds]
  | [.tup o ds] => mkTupI [.tup o ds]
  | [.scr ns] => mkScr [.scr ns]
  | [.str s] => mkStr [.str s]
  | _ => none
section
variable {X : Cx} {e tg : Expr} {m : Ox}
theorem mi_any (h : PE X e (tO (ux X) m)) : PI X tg e (tI (ux X) (hCons m hNil) mkAny) := ⟨fun pins s σ H R I q => by
  obtain ⟨E, F, as, hs, E1, ds, E2, items, g, r, e1, e2, e3, q⟩ := q
  unfold mkAny at e3
  split at e3
  · exact (mi_lst (tg := tg) h).run pins s σ H R I ⟨E, F, as, hs, E1, _, E2, items, g, r, e1, e2, e3, q⟩
  · exact (mi_tup (tg := tg) h).run pins s σ H R I ⟨E, F, as, hs, E1, _, E2, items, g, r, e1, e2, e3, q⟩
  · exact (mi_scr (tg := tg) h).run pins s σ H R I ⟨E, F, as, hs, E1, _, E2, items, g, r, e1, e2, e3, q⟩
  · exact (mi_str (tg := tg) h).run pins s σ H R I ⟨E, F, as, hs, E1, _, E2, items, g, r, e1, e2, e3, q⟩
  · cases e3⟩
end

/-! ### forgetting -/
def sK (is : List Nat) (m : Sm) : Sm := fun E => m (kill is E)
section
variable {X : Cx} {st : Stmt} {rest : List Stmt} {pin : Pn} {is : List Nat} {m : Sm} {U : Wd}
theorem sK_reads {D0 : Ends} {σ : Sl} {H : Hp} (q : tS U pin (sK is m) D0 σ H) : tS U pin m D0 σ H := by
  obtain ⟨E, F, as, c, E', g, r, e, q⟩ := q
  obtain ⟨a0, rest, p, r2⟩ := r.kill is
  have s : Step F H as F H rest := ((Step.refl g).perm p).right
  exact ⟨_, F, rest, c, E', s.good, r2, e, q.step s (SameAt.refl _ _)⟩
theorem ms_k (h : PSs X rest (tS (ux X) pin m)) : PSs X rest (tS (ux X) pin (sK is m)) := pss_mono h fun _ _ _ q => sK_reads q
theorem ms_k1 (h : PS X st (tS (ux X) pin m)) : PS X st (tS (ux X) pin (sK is m)) := ps_mono h fun _ _ _ q => sK_reads q
end

/-! ### a, b, c = x, y, z -/
def sPar3 (i j l : Nat) (m : Lx) : Sm := fun E => match m E with
  | some ([a, b, c], E1) => if i < E1.length ∧ j < E1.length ∧ l < E1.length then some (.nx, ((E1.set i (some a)).set j (some b)).set l (some c)) else none
  | _ => none
section
variable {X : Cx} {pin : Pn}
theorem ms_par3 {i j l : Nat} {x y z : Str} {a b c : Expr} {m : Lx} {px py pz pt pos : Pos} {kt k2 pt2} (h : PS X (.Assign [.Tuple [.Name x px, .Name y py, .Name z pz] kt pt] (.Tuple [a, b, c] k2 pt2) pos) (tPar3 i j l (tL (ux X) m))) (hi : pin i = false) (hj : pin j = false) (hl : pin l = false) :
    PS X (.Assign [.Tuple [.Name x px, .Name y py, .Name z pz] kt pt] (.Tuple [a, b, c] k2 pt2) pos) (tS (ux X) pin (sPar3 i j l m)) := ps_mono h fun D σ H q => by
  obtain ⟨E, F, as, ct, E', g, r, e, q⟩ := q
  unfold sPar3 at e
  split at e
  · rename_i d1 d2 d3 E1 e1
    split at e
    · rename_i ls
      obtain ⟨l1, l2, l3⟩ := ls
      cases e
      refine ⟨E, F, as, _, E1, g, r, e1, fun vs F1 H1 bs as1 s1 r1 w1 => ?_⟩
      cases w1 with
      | @cons v _ vr _ b1 b1' w1 w2 =>
        cases w2 with
        | @cons v' _ vr _ b2 b2' w2 w3 =>
          cases w3 with
          | @cons v'' _ vr _ b3 b4 w3 w4 =>
            cases w4
            refine ⟨v, v', v'', rfl, ?_⟩
            obtain ⟨a0, rest, p, r2⟩ := r1.store l1 w1
            obtain ⟨a0', rest', p', r3⟩ := r2.store (by simpa using l2) w2
            obtain ⟨a0'', rest'', p'', r4⟩ := r3.store (by simpa using l3) w3
            have p2 : ((b1 ++ (b2 ++ (b3 ++ []))) ++ as1).Perm ((a0 ++ a0' ++ a0'') ++ (b3 ++ rest'')) := List.perm_iff_count.mpr fun a => by
              have h1 := p.count_eq a
              have h2 := p'.count_eq a
              have h3 := p''.count_eq a
              simp only [List.count_append, List.count_nil] at h1 h2 h3 ⊢
              omega
            exact q _ F1 H1 (b3 ++ rest'') ((s1.perm p2).right) r4 (((SameAt.set hi).trans (SameAt.set hj)).trans (SameAt.set hl))
    · cases e
  · cases e
end
end MP

/-! Mirror layer, part 13: what printed proofs lean on. -/
namespace MP
open PySem PySem.Spec L2

/-- an equation that is not to be used by unfolding -/
theorem nr {α : Sort _} {a b : α} (h : a = b) : a = b := h
/-- a text by its codes -/
def S (l : List Nat) : Str := ⟨l.toArray⟩
def fu : Nat := 1099511627776
theorem fu_ge {n : Nat} (h : n ≤ 1099511627776) : n ≤ fu := h
def pinL (l : List Nat) : Pn := fun i => l.contains i
theorem pinU_le {l : List Nat} {pin : Pn} : ∀ i, pin i = true → pinU l pin i = true := fun i h => by
  unfold pinU
  rw [h, Bool.or_true]
theorem pins_ok {mask : List Bool} {pin : Pn} (h : ((List.range mask.length).all fun i => !(mask.getD i false) || pin i) = true) : ∀ i, mask[i]? = some true → pin i = true := fun i e => by
  have hi : i < mask.length := (List.getElem?_eq_some_iff.mp e).1
  have := List.all_eq_true.mp h i (List.mem_range.mpr hi)
  rw [List.getD_eq_getElem?_getD, e] at this
  simpa using this
/-- a def of the text, its mirror kept at every base -/
structure Cal (P : Program) (w : World) (K : PySem.W.Frag) (mg : Str → Option Value) (base : Heap) (k : Nat) (x : Str) (st : Stmt) (ps : List Str) (mf : Fm) : Prop where
  ex : ∃ (f : Addr) (fd : FuncData), FnG P w K mg base k f fd ps mf ∧ mg x = some (.ref f) ∧ Fun K x x st f fd
def FnIn (K : PySem.W.Frag) (mg : Str → Option Value) (x : Str) (st : Stmt) : Prop := ∃ (f : Addr) (fd : FuncData), mg x = some (.ref f) ∧ Fun K x x st f fd
/-- a name of the module that is bound to plain data once and for all -/
def GD (U : Wd) (mg : Str → Option Value) (x : Str) (d : D) : Prop := ∃ (u : Value) (v : V), mg x = some u ∧ RelV v u ∧ ∀ F H, Rp U F H v d []
theorem GD.str {U : Wd} {mg : Str → Option Value} {x s : Str} {t : Tok} (h : mg x = some (.str s t)) : GD U mg x (.str s) := ⟨_, .str s, h, ⟨t, rfl⟩, fun _ _ => .str s⟩
theorem GD.strS {U : Wd} {mg : Str → Option Value} {x s s' : Str} {t : Tok} (h : mg x = some (.str s t)) (e : s = s') : GD U mg x (.str s') := by
  subst e
  exact GD.str h
theorem GD.int {U : Wd} {mg : Str → Option Value} {x : Str} {i : Int} {t : Tok} (h : mg x = some (.int i t)) : GD U mg x (.int i) := ⟨_, .int i, h, ⟨t, rfl⟩, fun _ _ => .int i⟩
section
variable {X : Cx} {e : Expr} {es : List Expr} {kws : List Keyword} {pos p : Pos} {j k n : Nat} {st : Stmt} {ps ks : List Str} {mf : Fm} {m mk : Hx} {x : Str} {pm : List Nat} {d : D}
theorem mv_gd (g : GD (ux X) X.mg x d) (hg : Gl X x) (hd : (x == ("__debug__" : Str)) = false := by decide) : PE X (.Name x pos) (tM (ux X) (xC d)) := by
  obtain ⟨u, v, hm, r, w⟩ := g
  exact mv_glob w hg hm r hd
theorem mv_strS {s s' : Str} {i} (h : s = s') : PE X (.Constant (.str s) i pos) (tM (ux X) (xC (.str s'))) := by
  subst h
  exact mv_str
theorem FnG.mono {P : Program} {w : World} {K : PySem.W.Frag} {mg : Str → Option Value} {base : Heap} {f : Addr} {fd : FuncData} (F : FnG P w K mg base k f fd ps mf) (h : k ≤ j) : FnG P w K mg base j f fd ps mf :=
  ⟨F.len, fun A os s H args us vs Q hr => F.run A os s H args us vs Q (hr.mono h)⟩
theorem mv_c (c : Cal X.prog X.w X.K X.mg X.base k x st ps mf) (bd : ∀ {f : Addr} {fd : FuncData}, Fun X.K x x st f fd → Binds X.K fd ps []) (hr : Room j X.A) (hk : k ≤ j) (gd : X.A.guards = some []) (hg : Gl X x) (ha : PA X (e :: es) (tH (ux X) m))
    (hdb : (x == ("__debug__" : Str)) = false := by decide) (he : starEach (e :: es) X.env = (false, eval e X.env) :: starEach es X.env := by rfl) (hpl : (backTo pos (starEach es X.env)).any (·.1) = false := by rfl) :
    PE X (.Call (.Name x p) (e :: es) [] pos) (tM (ux X) (xCall mf m)) := by
  obtain ⟨f, fd, G, hm, Fn⟩ := c.ex
  exact mv_call (G.mono hk) hr gd hg hm Fn.kp (bd Fn) ha hdb he hpl
theorem mv_c0 (c : Cal X.prog X.w X.K X.mg X.base k x st ps mf) (bd : ∀ {f : Addr} {fd : FuncData}, Fun X.K x x st f fd → Binds X.K fd ps []) (hr : Room j X.A) (hk : k ≤ j) (gd : X.A.guards = some []) (hg : Gl X x)
    (hdb : (x == ("__debug__" : Str)) = false := by decide) : PE X (.Call (.Name x p) [] [] pos) (tM (ux X) (xCall mf hNil)) := by
  obtain ⟨f, fd, G, hm, Fn⟩ := c.ex
  exact mv_call0 (G.mono hk) hr gd hg hm Fn.kp (bd Fn) hdb
theorem mv_ck0 (c : Cal X.prog X.w X.K X.mg X.base k x st ps mf) (kb : ∀ {f : Addr} {fd : FuncData}, Fun X.K x x st f fd → KB X.K fd ps ks 0 pm) (hr : Room j X.A) (hk : k ≤ j) (gd : X.A.guards = some []) (hg : Gl X x)
    (hkw : PK X kws (tH (ux X) mk)) (hall : (backToKw pos (keywordEach kws X.env)).all (·.1.isSome) = true := by rfl) (hks : (backToKw pos (keywordEach kws X.env)).filterMap (·.1) = ks := by rfl) (hdb : (x == ("__debug__" : Str)) = false := by decide)
    (hpl : ((backTo pos (starEach [] X.env)).any (·.1) || (backToKw pos (keywordEach kws X.env)).any (·.1.isNone)) = false := by rfl) :
    PE X (.Call (.Name x p) [] kws pos) (tM (ux X) (xCall mf (hPick 0 ks.length pm hNil mk))) := by
  obtain ⟨f, fd, G, hm, Fn⟩ := c.ex
  exact mv_callK0 (G.mono hk) hr gd hg hm Fn.kp (kb Fn) hkw hall hks hdb hpl
theorem mv_ck (c : Cal X.prog X.w X.K X.mg X.base k x st ps mf) (kb : ∀ {f : Addr} {fd : FuncData}, Fun X.K x x st f fd → KB X.K fd ps ks n pm) (hr : Room j X.A) (hk : k ≤ j) (gd : X.A.guards = some []) (hg : Gl X x)
    (ha : PA X (e :: es) (tH (ux X) m)) (hkw : PK X kws (tH (ux X) mk)) (hall : (backToKw pos (keywordEach kws X.env)).all (·.1.isSome) = true := by rfl) (hks : (backToKw pos (keywordEach kws X.env)).filterMap (·.1) = ks := by rfl)
    (hdb : (x == ("__debug__" : Str)) = false := by decide) (he : starEach (e :: es) X.env = (false, eval e X.env) :: starEach es X.env := by rfl)
    (hpl : ((backTo pos (starEach (e :: es) X.env)).any (·.1) || (backToKw pos (keywordEach kws X.env)).any (·.1.isNone)) = false := by rfl) :
    PE X (.Call (.Name x p) (e :: es) kws pos) (tM (ux X) (xCall mf (hPick n ks.length pm m mk))) := by
  obtain ⟨f, fd, G, hm, Fn⟩ := c.ex
  exact mv_callK (G.mono hk) hr gd hg hm Fn.kp (kb Fn) ha hkw hall hks hdb he hpl
end
theorem kb_of {K : PySem.W.Frag} {x : Str} {st : Stmt} {f : Addr} {fd : FuncData} {ps ks : List Str} {n : Nat} {pm : List Nat} (F : Fun K x x st f fd)
    (h : ∀ (kV doc pm' : Value) (an : Option Addr) (cdv ct : Value) (us ws : List Value), us.length = n → ws.length = ks.length → bindArgs (PySem.W.fnOf x x (defArgs st) (defBody st) (defScope st) .none kV doc pm' an cdv ct) ⟨us, ks.zip ws⟩ = pure (ps.zip (pick pm (us ++ ws)))) : KB K fd ps ks n pm := by
  obtain ⟨oc, od, kV, doc, pm', an, cdv, ct, osl, rfl, lk, hcd⟩ := F.ex
  exact fun s us ws _ h1 h2 => .of_eq (h kV doc pm' an cdv ct us ws h1 h2)
end MP

/-! Mirrors by simp: one rule for each form; what isn't reached yet is not looked into. -/
namespace MP
open PySem PySem.Spec L2
section
variable {α β : Type}
/-- a continuation, out of simp's sight -/
class Ct (α β : Type) where
  go : α → Option β
def bndI (x : Option α) [c : Ct α β] : Option β := match x with
  | some a => c.go a
  | none => none
abbrev bnd (x : Option α) (f : α → Option β) : Option β := bndI x (c := ⟨f⟩)
@[simp] theorem bnd_some (a : α) (f : α → Option β) : bndI (some a) (c := ⟨f⟩) = f a := nr rfl
@[simp] theorem bnd_none [c : Ct α β] : bndI (none : Option α) (c := c) = none := nr rfl
/-- two continuations -/
class C2 (β : Type) where
  yes : En → Option β
  no : En → Option β
def tstI (r : Option (Bool × En)) [c : C2 β] : Option β := match r with
  | some (true, E) => c.yes E
  | some (false, E) => c.no E
  | none => none
abbrev tstK (r : Option (Bool × En)) (a b : En → Option β) : Option β := tstI r (c := ⟨a, b⟩)
@[simp] theorem tstK_t (E : En) (a b : En → Option β) : tstI (some (true, E)) (c := ⟨a, b⟩) = a E := nr rfl
@[simp] theorem tstK_f (E : En) (a b : En → Option β) : tstI (some (false, E)) (c := ⟨a, b⟩) = b E := nr rfl
theorem tstK_ite {p : Prop} [Decidable p] (E : En) (a b : En → Option β) : tstK (some (decide p, E)) a b = if p then a E else b E := by
  by_cases h : p
  · rw [if_pos h, decide_eq_true h]
    rfl
  · rw [if_neg h, decide_eq_false h]
    rfl
class Op2 (β : Type) where
  yes : Option β
  no : Option β
def iteI (v : Bool) [c : Op2 β] : Option β := if v = true then c.yes else c.no
abbrev iteK (v : Bool) (a b : Option β) : Option β := iteI v (c := ⟨a, b⟩)
@[simp] theorem iteK_t (a b : Option β) : iteI true (c := ⟨a, b⟩) = a := nr rfl
@[simp] theorem iteK_f (a b : Option β) : iteI false (c := ⟨a, b⟩) = b := nr rfl
end
class Cs where
  go : Sm
def seqI (r : Option (Ctl × En)) [c : Cs] : Option (Ctl × En) := match r with
  | some (.nx, E) => c.go E
  | r => r
abbrev seqK (r : Option (Ctl × En)) (b : Sm) : Option (Ctl × En) := seqI r (c := ⟨b⟩)
@[simp] theorem seqK_nx (E : En) (b : Sm) : seqI (some (.nx, E)) (c := ⟨b⟩) = b E := nr rfl
@[simp] theorem seqK_rt (d : D) (E : En) [c : Cs] : seqI (some (.rt d, E)) (c := c) = some (.rt d, E) := nr rfl
@[simp] theorem seqK_bk (E : En) [c : Cs] : seqI (some (.bk, E)) (c := c) = some (.bk, E) := nr rfl
@[simp] theorem seqK_ct (E : En) [c : Cs] : seqI (some (.ct, E)) (c := c) = some (.ct, E) := nr rfl
def endK (mask : List Bool) (r : Option (Ctl × En)) : Option (D × List (Option D)) := match r with
  | some (.rt d, E) => some (d, finals mask E)
  | some (.nx, E) => some (.non, finals mask E)
  | _ => none
@[simp] theorem endK_rt (mask : List Bool) (d : D) (E : En) : endK mask (some (.rt d, E)) = some (d, finals mask E) := nr rfl
@[simp] theorem endK_nx (mask : List Bool) (E : En) : endK mask (some (.nx, E)) = some (.non, finals mask E) := nr rfl
@[simp] theorem fin_nil (E : En) : finals [] E = [] := by cases E <;> rfl
@[simp] theorem fin_t (bs : List Bool) (x : Option D) (E : En) : finals (true :: bs) (x :: E) = x :: finals bs E := nr rfl
@[simp] theorem fin_f (bs : List Bool) (x : Option D) (E : En) : finals (false :: bs) (x :: E) = none :: finals bs E := nr rfl
theorem ev_fn (n : Nat) (mask : List Bool) (body : Sm) (ds : List D) : fnM n mask body ds = if ds.length = mask.length then endK mask (body (ds.map some ++ List.replicate (n - mask.length) none)) else none := by
  unfold fnM
  split
  · generalize body (ds.map some ++ List.replicate (n - mask.length) none) = z
    cases z with
    | none => rfl
    | some x =>
      obtain ⟨c, E⟩ := x
      cases c <;> rfl
  · rfl
section
variable (E : En) (m a b c : Ex) (o p q : Ox) (f g : D → D → Option D) (t u : Tx) (s r : Sm) (h h' : Hx) (l l' : Lx) (i j k : Nat) (d : D)
@[simp] theorem ev_seq : sSeq s r E = seqK (s E) r := by
  unfold sSeq
  cases s E with
  | none => rfl
  | some x =>
    obtain ⟨v, E1⟩ := x
    cases v <;> rfl
@[simp] theorem ev_skip : sSkip E = some (.nx, E) := nr rfl
@[simp] theorem ev_break : sBreak E = some (.bk, E) := nr rfl
@[simp] theorem ev_cont : sCont E = some (.ct, E) := nr rfl
@[simp] theorem ev_never : sNever E = none := nr rfl
@[simp] theorem ev_drop : sDrop m E = bnd (m E) fun x => some (.nx, x.2) := by
  unfold sDrop
  cases m E <;> rfl
@[simp] theorem ev_ret : sRet m E = bnd (m E) fun x => some (.rt x.1, x.2) := by
  unfold sRet
  cases m E <;> rfl
@[simp] theorem ev_retN : sRetN E = some (.rt .non, E) := nr rfl
@[simp] theorem ev_if : sIf t s r E = tstK (t E) s r := by
  unfold sIf
  cases t E with
  | none => rfl
  | some x =>
    obtain ⟨v, E1⟩ := x
    cases v <;> rfl
@[simp] theorem ev_asg (gm : Gm) : sAsg m gm E = bnd (m E) fun x => bnd (gm x.1 x.2) fun E2 => some (.nx, E2) := by
  unfold sAsg
  cases m E with
  | none => rfl
  | some x =>
    obtain ⟨v, E1⟩ := x
    show (match gm v E1 with | some E2 => some (Ctl.nx, E2) | none => none) = bnd (gm v E1) _
    cases gm v E1 <;> rfl
@[simp] theorem ev_set (v : D) : gSet i v E = if i < E.length then some (E.set i (some v)) else none := nr rfl
@[simp] theorem ev_gno : gNo [] E = some E := nr rfl
@[simp] theorem ev_gone (gm : Gm) (gs : Gs) (v : D) (vs : List D) : gOne gm gs (v :: vs) E = bnd (gm v E) fun E1 => gs vs E1 := by
  show (match gm v E with | some E1 => gs vs E1 | none => none) = _
  cases gm v E <;> rfl
@[simp] theorem ev_gtup (n : Nat) (gs : Gs) (w : Bool) (vs : List D) : gTup' n gs (.tup w vs) E = if vs.length = n then gs vs E else none := nr rfl
@[simp] theorem ev_k (is : List Nat) : sK is s E = s (kill is E) := nr rfl
@[simp] theorem ev_kill0 : kill [] E = E := nr rfl
@[simp] theorem ev_kill (is : List Nat) : kill (i :: is) E = kill is (E.set i none) := nr rfl
@[simp] theorem ev_par : sPar i j l E = bnd (l E) fun x => match x with
    | ([v, w], E1) => if i < E1.length then (if j < E1.length then some (.nx, (E1.set i (some v)).set j (some w)) else none) else none
    | _ => none := by
  unfold sPar
  cases l E with
  | none => rfl
  | some x =>
    obtain ⟨ds, E1⟩ := x
    match ds with
    | [] => rfl
    | [_] => rfl
    | [_, _] => rfl
    | _ :: _ :: _ :: _ => rfl
@[simp] theorem ev_par3 : sPar3 i j k l E = bnd (l E) fun x => match x with
    | ([v, w, z], E1) => if i < E1.length ∧ j < E1.length ∧ k < E1.length then some (.nx, ((E1.set i (some v)).set j (some w)).set k (some z)) else none
    | _ => none := by
  unfold sPar3
  cases l E with
  | none => rfl
  | some x =>
    obtain ⟨ds, E1⟩ := x
    match ds with
    | [] => rfl
    | [_] => rfl
    | [_, _] => rfl
    | [_, _, _] => rfl
    | _ :: _ :: _ :: _ :: _ => rfl
/-! expressions -/
@[simp] theorem ev_c : xC d E = some (d, E) := nr rfl
@[simp] theorem ev_no : xNo E = none := nr rfl
@[simp] theorem ev_oV : oV m E = bnd (m E) fun x => some (.val x.1, x.2) := by
  unfold oV
  cases m E <;> rfl
def slotI {β : Type} (r : Option (Option D)) [c : Ct D β] : Option β := match r with
  | some (some d) => c.go d
  | _ => none
abbrev slotK {β : Type} (r : Option (Option D)) (x : D → Option β) : Option β := slotI r (c := ⟨x⟩)
@[simp] theorem slotK_some {β : Type} (x : D → Option β) : slotI (some (some d)) (c := ⟨x⟩) = x d := nr rfl
@[simp] theorem ev_oN : oN i E = slotK E[i]? fun _ => some (.slot i, E) := by
  unfold oN
  cases E[i]? with
  | none => rfl
  | some o => cases o <;> rfl
@[simp] theorem ev_dr (x : Nat) : dr E (.slot x) = slotK E[x]? some := by
  simp only [dr]
  cases E[x]? with
  | none => rfl
  | some o => cases o <;> rfl
@[simp] theorem ev_drv (v : D) : dr E (.val v) = some v := nr rfl
@[simp] theorem ev_drl0 : drL E [] = some [] := nr rfl
@[simp] theorem ev_drl (x : Hd) (xs : List Hd) : drL E (x :: xs) = bnd (dr E x) fun v => bnd (drL E xs) fun vs => some (v :: vs) := by
  show (match dr E x with | some d => (match drL E xs with | some ds => some (d :: ds) | none => none) | none => none) = _
  cases dr E x with
  | none => rfl
  | some d =>
    show (match drL E xs with | some ds => some (d :: ds) | none => none) = bnd (drL E xs) _
    cases drL E xs <;> rfl
@[simp] theorem ev_tk : xTk i E = slotK E[i]? fun d => iteK d.frozen (some (d, E)) (some (d, E.set i none)) := by
  unfold xTk
  cases E[i]? with
  | none => rfl
  | some o => cases o <;> rfl
@[simp] theorem ev_sh : xSh i E = slotK E[i]? fun d => iteK d.frozen (some (d, E)) (some (d.frz, E.set i (some d.frz))) := by
  unfold xSh
  cases E[i]? with
  | none => rfl
  | some o => cases o <;> rfl
@[simp] theorem ev_op2 : op2 f o p E = bnd (o E) fun x => bnd (p x.2) fun y => bnd (dr y.2 x.1) fun v => bnd (dr y.2 y.1) fun w => bnd (f v w) fun z => some (z, y.2) := by
  unfold op2
  cases o E with
  | none => rfl
  | some x =>
    obtain ⟨h1, E1⟩ := x
    show _ = bnd (p E1) _
    cases e0 : p E1 with
    | none => simp only [e0]; rfl
    | some y =>
      obtain ⟨h2, E2⟩ := y
      simp only [e0]
      show _ = bnd (dr E2 h1) _
      cases e1 : dr E2 h1 with
      | none => rfl
      | some v =>
        show _ = bnd (dr E2 h2) _
        cases e2 : dr E2 h2 with
        | none => rfl
        | some w =>
          show _ = bnd (f v w) _
          simp only
          cases f v w <;> rfl
@[simp] theorem ev_op1 (f : D → Option D) : op1 f o E = bnd (o E) fun x => bnd (dr x.2 x.1) fun v => bnd (f v) fun z => some (z, x.2) := by
  unfold op1
  cases o E with
  | none => rfl
  | some x =>
    obtain ⟨h1, E1⟩ := x
    show _ = bnd (dr E1 h1) _
    simp only
    cases e1 : dr E1 h1 with
    | none => rfl
    | some v =>
      show _ = bnd (f v) _
      simp only
      cases f v <;> rfl
def blI {β : Type} (r : Option (D × En)) [c : Ct (Bool × En) β] : Option β := match r with
  | some (.bl v, E) => c.go (v, E)
  | _ => none
abbrev blK {β : Type} (r : Option (D × En)) (x : Bool → En → Option β) : Option β := blI r (c := ⟨fun y => x y.1 y.2⟩)
@[simp] theorem blK_some {β : Type} (v : Bool) (x : Bool × En → Option β) : blI (some (.bl v, E)) (c := ⟨x⟩) = x (v, E) := nr rfl
@[simp] theorem ev_toB : toB m E = blK (m E) fun v E' => some (v, E') := by
  unfold toB
  cases m E with
  | none => rfl
  | some x =>
    obtain ⟨v, E1⟩ := x
    cases v <;> rfl
@[simp] theorem ev_andT : andT t u E = tstK (t E) u fun E1 => some (false, E1) := by
  unfold andT
  cases t E with
  | none => rfl
  | some x =>
    obtain ⟨v, E1⟩ := x
    cases v <;> rfl
@[simp] theorem ev_orT : orT t u E = tstK (t E) (fun E1 => some (true, E1)) u := by
  unfold orT
  cases t E with
  | none => rfl
  | some x =>
    obtain ⟨v, E1⟩ := x
    cases v <;> rfl
@[simp] theorem ev_notT : notT t E = bnd (t E) fun x => some (!x.1, x.2) := by
  unfold notT
  cases t E <;> rfl
@[simp] theorem ev_andX : andX a b E = blK (a E) fun v E1 => tstK (some (v, E1)) b fun E1 => some (.bl false, E1) := by
  unfold andX
  cases a E with
  | none => rfl
  | some x =>
    obtain ⟨v, E1⟩ := x
    cases v <;> try rfl
    rename_i v
    cases v <;> rfl
@[simp] theorem ev_orX : orX a b E = blK (a E) fun v E1 => tstK (some (v, E1)) (fun E1 => some (.bl true, E1)) b := by
  unfold orX
  cases a E with
  | none => rfl
  | some x =>
    obtain ⟨v, E1⟩ := x
    cases v <;> try rfl
    rename_i v
    cases v <;> rfl
@[simp] theorem ev_notX : notX a E = blK (a E) fun v E1 => some (.bl (!v), E1) := by
  unfold notX
  cases a E with
  | none => rfl
  | some x =>
    obtain ⟨v, E1⟩ := x
    cases v <;> rfl
@[simp] theorem ev_ifX : ifX t a b E = tstK (t E) a b := by
  unfold ifX
  cases t E with
  | none => rfl
  | some x =>
    obtain ⟨v, E1⟩ := x
    cases v <;> rfl
def altI (r : Option (D × En)) [c : Ct En (D × En)] (E : En) : Option (D × En) := match r with
  | some x => some x
  | none => c.go E
abbrev altK (r : Option (D × En)) (b : Ex) (E : En) : Option (D × En) := altI r (c := ⟨b⟩) E
@[simp] theorem altK_some (x : D × En) [c : Ct En (D × En)] : altI (some x) (c := c) E = some x := nr rfl
@[simp] theorem altK_none : altI none (c := ⟨b⟩) E = b E := nr rfl
@[simp] theorem ev_alt : altX a b E = altK (a E) b E := by
  unfold altX
  cases a E <;> rfl
@[simp] theorem ev_ixOwn : ixOwn m o E = bnd (m E) fun x => bnd (o x.2) fun y => bnd (partsD x.1) fun ds => bnd (dr y.2 y.1) fun v => match v with
    | .int z => bnd (atI ds z) fun r => some (r, y.2)
    | _ => none := by
  unfold ixOwn
  cases m E with
  | none => rfl
  | some x =>
    obtain ⟨d1, E1⟩ := x
    show _ = bnd (o E1) _
    simp only
    cases e0 : o E1 with
    | none => rfl
    | some y =>
      obtain ⟨h2, E2⟩ := y
      show _ = bnd (partsD d1) _
      simp only
      cases e1 : partsD d1 with
      | none => rfl
      | some ds =>
        show _ = bnd (dr E2 h2) _
        cases e2 : dr E2 h2 with
        | none => rfl
        | some w =>
          cases w <;> try rfl
          rename_i z
          show _ = bnd (atI ds z) _
          simp only
          cases atI ds z <;> rfl
@[simp] theorem ev_xnil : xNil E = some ([], E) := nr rfl
@[simp] theorem ev_hnil : hNil E = some ([], E) := nr rfl
@[simp] theorem ev_xcons : xCons m l E = bnd (m E) fun x => bnd (l x.2) fun y => some (x.1 :: y.1, y.2) := by
  unfold xCons
  cases m E with
  | none => rfl
  | some x =>
    obtain ⟨d1, E1⟩ := x
    show _ = bnd (l E1) _
    simp only
    cases l E1 <;> rfl
@[simp] theorem ev_hcons : hCons o h E = bnd (o E) fun x => bnd (h x.2) fun y => some (x.1 :: y.1, y.2) := by
  unfold hCons
  cases o E with
  | none => rfl
  | some x =>
    obtain ⟨d1, E1⟩ := x
    show _ = bnd (h E1) _
    simp only
    cases h E1 <;> rfl
@[simp] theorem ev_lst : dLst l E = bnd (l E) fun x => iteK (lineOk x.1.length) (some (.lst true x.1, x.2)) none := by
  unfold dLst
  cases l E <;> rfl
@[simp] theorem ev_tup : dTup l E = bnd (l E) fun x => iteK (lineOk x.1.length) (some (mkTup x.1, x.2)) none := by
  unfold dTup
  cases l E <;> rfl
@[simp] theorem ev_opN (f : List D → Option D) : opN f h E = bnd (h E) fun x => bnd (drL x.2 x.1) fun ds => bnd (f ds) fun z => some (z, x.2) := by
  unfold opN
  cases h E with
  | none => rfl
  | some x =>
    obtain ⟨hs, E1⟩ := x
    show _ = bnd (drL E1 hs) _
    simp only
    cases drL E1 hs with
    | none => rfl
    | some ds =>
      show _ = bnd (f ds) _
      simp only
      cases f ds <;> rfl
@[simp] theorem ev_take0 : takeL [] E = some ([], E) := nr rfl
@[simp] theorem ev_takev (v : D) (hs : List Hd) : takeL (.val v :: hs) E = bnd (takeL hs E) fun x => some (v :: x.1, x.2) := by
  show (match takeL hs E with | some (ds, E1) => some (v :: ds, E1) | none => none) = _
  cases takeL hs E <;> rfl
@[simp] theorem ev_takes (hs : List Hd) : takeL (.slot i :: hs) E = slotK E[i]? fun d => bnd (takeL hs (if d.frozen = true then E else E.set i none)) fun x => some (d :: x.1, x.2) := by
  show (match E[i]? with | some (some d) => (match takeL hs (if d.frozen = true then E else E.set i none) with | some (ds, E1) => some (d :: ds, E1) | none => none) | _ => none) = _
  cases E[i]? with
  | none => rfl
  | some o =>
    cases o with
    | none => rfl
    | some d =>
      show _ = bnd (takeL hs (if d.frozen = true then E else E.set i none)) _
      simp only
      cases takeL hs (if d.frozen = true then E else E.set i none) <;> rfl
@[simp] theorem ev_put0 (ds : List D) (fs : List (Option D)) : putL [] ds fs E = E := by unfold putL; rfl
@[simp] theorem ev_putv (v w : D) (x : Option D) (hs : List Hd) (ds : List D) (fs : List (Option D)) : putL (.val v :: hs) (w :: ds) (x :: fs) E = putL hs ds fs E := nr rfl
@[simp] theorem ev_puts (w : D) (x : Option D) (hs : List Hd) (ds : List D) (fs : List (Option D)) : putL (.slot i :: hs) (w :: ds) (x :: fs) E = putL hs ds fs (if w.frozen = true then E else E.set i x) := nr rfl
@[simp] theorem ev_call (mf : Fm) : xCall mf h E = bnd (h E) fun x => bnd (takeL x.1 x.2) fun y => bnd (mf y.1) fun z => some (z.1, putL x.1 y.1 z.2 y.2) := by
  unfold xCall
  cases h E with
  | none => rfl
  | some x =>
    obtain ⟨hs, E1⟩ := x
    show _ = bnd (takeL hs E1) _
    simp only
    cases takeL hs E1 with
    | none => rfl
    | some y =>
      obtain ⟨ds, E2⟩ := y
      show _ = bnd (mf ds) _
      simp only
      cases mf ds <;> rfl
@[simp] theorem ev_pick (n z : Nat) (pm : List Nat) : hPick n z pm h h' E = bnd (h E) fun x => bnd (h' x.2) fun y => iteK (x.1.length == n && y.1.length == z && pm.isPerm (List.range (x.1 ++ y.1).length)) (some (pick pm (x.1 ++ y.1), y.2)) none := by
  unfold hPick
  cases h E with
  | none => rfl
  | some x =>
    obtain ⟨hs, E1⟩ := x
    show _ = bnd (h' E1) _
    simp only
    cases h' E1 <;> rfl
@[simp] theorem ev_repr : reprL h E = bnd (h E) fun x => bnd (drL x.2 x.1) fun ds => iteK (lineOk ds.length && okShow (.lst true ds)) (some (.str (D.lst true ds).toP.shown, x.2)) none := by
  unfold reprL
  cases h E with
  | none => rfl
  | some x =>
    obtain ⟨hs, E1⟩ := x
    show _ = bnd (drL E1 hs) _
    simp only
    cases drL E1 hs with
    | none => rfl
    | some ds =>
      show _ = iteK _ _ _
      simp only
      cases lineOk ds.length <;> cases okShow (.lst true ds) <;> rfl
@[simp] theorem ev_meth (T : String) (f : D → List D → Option D) : opM T f o h E = bnd (o E) fun x => bnd (dr x.2 x.1) fun v => iteK (tyName v == T) (bnd (h x.2) fun y => bnd (dr y.2 x.1) fun w => bnd (drL y.2 y.1) fun ds => bnd (f w ds) fun z => some (z, y.2)) none := by
  unfold opM
  cases o E with
  | none => rfl
  | some x =>
    obtain ⟨h1, E1⟩ := x
    show _ = bnd (dr E1 h1) _
    simp only
    cases e1 : dr E1 h1 with
    | none => rfl
    | some v =>
      show _ = iteK (tyName v == T) _ _
      simp only
      by_cases ht : tyName v = T
      · rw [if_pos ht, beq_iff_eq.mpr ht]
        show _ = bnd (h E1) _
        cases h E1 with
        | none => rfl
        | some y =>
          obtain ⟨hs, E2⟩ := y
          show _ = bnd (dr E2 h1) _
          simp only
          cases e2 : dr E2 h1 with
          | none => rfl
          | some w =>
            show _ = bnd (drL E2 hs) _
            cases e3 : drL E2 hs with
            | none => rfl
            | some ds =>
              show _ = bnd (f w ds) _
              simp only
              cases f w ds <;> rfl
      · have hb : (tyName v == T) = false := by simpa using ht
        rw [if_neg ht, hb]
        rfl
@[simp] theorem ev_append : xAppend i l E = iteK (isLst E i) (bnd (l E) fun x => match x.1 with
    | [v] => bnd (lstAt x.2 i) fun ds => iteK (lineOk (ds.length + 1)) (some (.non, x.2.set i (some (.lst true (ds ++ [v]))))) none
    | _ => none) none := by
  unfold xAppend
  cases isLst E i with
  | false => rfl
  | true =>
    show (match l E with | some ([d], E1) => (match lstAt E1 i with | some ds => if lineOk (ds.length + 1) = true then some (D.non, E1.set i (some (.lst true (ds ++ [d])))) else none | none => none) | _ => none) = bnd (l E) _
    cases l E with
    | none => rfl
    | some x =>
      obtain ⟨ds, E1⟩ := x
      match ds with
      | [] => rfl
      | [v] =>
        show (match lstAt E1 i with | some ds => if lineOk (ds.length + 1) = true then some (D.non, E1.set i (some (.lst true (ds ++ [v])))) else none | none => none) = bnd (lstAt E1 i) _
        cases lstAt E1 i <;> rfl
      | _ :: _ :: _ => rfl
/-! slices -/
@[simp] theorem ev_now : intNow o E = bnd (o E) fun x => bnd (dr x.2 x.1) fun v => match v with
    | .int z => some (.val (.int z), x.2)
    | _ => none := by
  unfold intNow
  cases o E with
  | none => rfl
  | some x =>
    obtain ⟨h1, E1⟩ := x
    show _ = bnd (dr E1 h1) _
    simp only
    cases e1 : dr E1 h1 with
    | none => rfl
    | some v => cases v <;> rfl
@[simp] theorem ev_part0 : oPart none E = some (none, E) := nr rfl
@[simp] theorem ev_part : oPart (some o) E = bnd (o E) fun x => some (some x.1, x.2) := by
  show (match o E with | some (h, E1) => some (some h, E1) | none => none) = _
  cases o E <;> rfl
@[simp] theorem ev_drp0 : drPart E none = some none := nr rfl
@[simp] theorem ev_drp (z : Int) : drPart E (some (.val (.int z))) = some (some z) := nr rfl
@[simp] theorem ev_sl (f : D → Option Int → Option Int → Option D) (lo hi : Option Ox) : opSl f o lo hi E = bnd (o E) fun x => bnd (oPart lo x.2) fun y => bnd (oPart hi y.2) fun z => bnd (dr z.2 x.1) fun v => bnd (drPart z.2 y.1) fun a => bnd (drPart z.2 z.1) fun b => bnd (f v a b) fun r => some (r, z.2) := by
  unfold opSl
  cases o E with
  | none => rfl
  | some x =>
    obtain ⟨h1, E1⟩ := x
    show _ = bnd (oPart lo E1) _
    simp only
    cases oPart lo E1 with
    | none => rfl
    | some y =>
      obtain ⟨h2, E2⟩ := y
      show _ = bnd (oPart hi E2) _
      simp only
      cases oPart hi E2 with
      | none => rfl
      | some z =>
        obtain ⟨h3, E3⟩ := z
        show _ = bnd (dr E3 h1) _
        simp only
        cases dr E3 h1 with
        | none => rfl
        | some v =>
          show _ = bnd (drPart E3 h2) _
          cases drPart E3 h2 with
          | none => rfl
          | some a =>
            show _ = bnd (drPart E3 h3) _
            cases drPart E3 h3 with
            | none => rfl
            | some b =>
              show _ = bnd (f v a b) _
              simp only
              cases f v a b <;> rfl
/-! stores into lists -/
def isL : Option (Option D) → Bool
  | some (some (.lst _ _)) => true
  | _ => false
@[simp] theorem isL_lst (w : Bool) (ds : List D) : isL (some (some (.lst w ds))) = true := nr rfl
@[simp] theorem ev_isLst : isLst E i = isL E[i]? := by
  unfold isLst
  cases E[i]? with
  | none => rfl
  | some o =>
    cases o with
    | none => rfl
    | some d => cases d <;> rfl
def ownL : D → Option (List D)
  | .lst true ds => some ds
  | _ => none
@[simp] theorem ownL_lst (ds : List D) : ownL (.lst true ds) = some ds := nr rfl
@[simp] theorem ev_lstAt : lstAt E i = slotK E[i]? ownL := by
  unfold lstAt
  cases E[i]? with
  | none => rfl
  | some x =>
    cases x with
    | none => rfl
    | some v =>
      cases v <;> try rfl
      rename_i w ds
      cases w <;> rfl
@[simp] theorem ev_gix (v : D) : gIx i o v E = bnd (lstAt E i) fun _ => bnd (o E) fun x => bnd (dr x.2 x.1) fun w => match w with
    | .int z => bnd (lstAt x.2 i) fun ds => bnd (ixN ds.length z) fun j => some (x.2.set i (some (.lst true (ds.set j v))))
    | _ => none := by
  unfold gIx
  cases lstAt E i with
  | none => rfl
  | some _ =>
    show _ = bnd (o E) _
    simp only
    cases o E with
    | none => rfl
    | some x =>
      obtain ⟨h1, E1⟩ := x
      show _ = bnd (dr E1 h1) _
      simp only
      cases e1 : dr E1 h1 with
      | none => rfl
      | some w =>
        cases w <;> try rfl
        rename_i z
        show _ = bnd (lstAt E1 i) _
        cases lstAt E1 i with
        | none => rfl
        | some ds =>
          show _ = bnd (ixN ds.length z) _
          simp only
          cases ixN ds.length z <;> rfl
@[simp] theorem ev_pop : xPop i E = bnd (lstAt E i) fun ds => bnd ds.getLast? fun v => some (v, E.set i (some (.lst true ds.dropLast))) := by
  unfold xPop
  cases lstAt E i with
  | none => rfl
  | some ds =>
    show _ = bnd ds.getLast? _
    simp only
    cases ds.getLast? <;> rfl
@[simp] theorem ev_extend : xExtend i h E = iteK (isLst E i) (bnd (h E) fun x => match x.1 with
    | [y] => bnd (dr x.2 y) fun v => bnd (lstAt x.2 i) fun ds => match v with
      | .lst _ es => iteK (frozenL es && lineOk (ds.length + es.length)) (some (.non, x.2.set i (some (.lst true (ds ++ es))))) none
      | _ => none
    | _ => none) none := by
  unfold xExtend
  cases isLst E i with
  | false => rfl
  | true =>
    show _ = bnd (h E) _
    rw [if_pos rfl]
    cases h E with
    | none => rfl
    | some x =>
      obtain ⟨hs, E1⟩ := x
      match hs with
      | [] => rfl
      | [y] =>
        show _ = bnd (dr E1 y) _
        simp only
        cases e1 : dr E1 y with
        | none => rfl
        | some v =>
          show _ = bnd (lstAt E1 i) _
          cases e2 : lstAt E1 i with
          | none => cases v <;> rfl
          | some ds => cases v <;> rfl
      | _ :: _ :: _ => rfl
/-! a < b < c -/
@[simp] theorem ev_ch : chT f g o p q E = bnd (o E) fun x => bnd (p x.2) fun y => bnd (dr y.2 x.1) fun v => bnd (dr y.2 y.1) fun w => blK (bnd (f v w) fun r => some (r, y.2)) fun t E2 => tstK (some (t, E2)) (fun E2 => bnd (q E2) fun z => bnd (dr z.2 y.1) fun w => bnd (dr z.2 z.1) fun u => bnd (g w u) fun r => some (r, z.2)) fun E2 => some (.bl false, E2) := by
  unfold chT
  cases o E with
  | none => rfl
  | some x =>
    obtain ⟨h1, E1⟩ := x
    show _ = bnd (p E1) _
    simp only
    cases p E1 with
    | none => rfl
    | some y =>
      obtain ⟨h2, E2⟩ := y
      show _ = bnd (dr E2 h1) _
      simp only
      cases e1 : dr E2 h1 with
      | none => rfl
      | some v =>
        show _ = bnd (dr E2 h2) _
        cases e2 : dr E2 h2 with
        | none => rfl
        | some w =>
          rw [show (bnd (some w) fun w => blK (bnd (f v w) fun r => some (r, E2)) fun t E2 => tstK (some (t, E2)) (fun E2 => bnd (q E2) fun z => bnd (dr z.2 h2) fun w => bnd (dr z.2 z.1) fun u => bnd (g w u) fun r => some (r, z.2)) fun E2 => some (.bl false, E2)) = blK (bnd (f v w) fun r => some (r, E2)) fun t E2 => tstK (some (t, E2)) (fun E2 => bnd (q E2) fun z => bnd (dr z.2 h2) fun w => bnd (dr z.2 z.1) fun u => bnd (g w u) fun r => some (r, z.2)) fun E2 => some (.bl false, E2) from rfl]
          simp only
          cases e3 : f v w with
          | none => rfl
          | some r =>
            cases r <;> try rfl
            rename_i b
            cases b with
            | false => rfl
            | true =>
              show _ = bnd (q E2) _
              simp only
              cases q E2 with
              | none => rfl
              | some z =>
                obtain ⟨h3, E3⟩ := z
                show _ = bnd (dr E3 h2) _
                simp only
                cases e4 : dr E3 h2 with
                | none => rfl
                | some w' =>
                  show _ = bnd (dr E3 h3) _
                  cases e5 : dr E3 h3 with
                  | none => rfl
                  | some u =>
                    show _ = bnd (g w' u) _
                    simp only
                    cases g w' u <;> rfl
/-! loops -/
def loopI (r : Option (Ctl × En)) (dead : List Nat) [c : Cs] : Option (Ctl × En) := match r with
  | some (.nx, E) => c.go (kill dead E)
  | some (.ct, E) => c.go (kill dead E)
  | some (.bk, E) => some (.nx, E)
  | some (.rt d, E) => some (.rt d, E)
  | none => none
abbrev loopK (r : Option (Ctl × En)) (dead : List Nat) (x : Sm) : Option (Ctl × En) := loopI r dead (c := ⟨x⟩)
@[simp] theorem loopK_nx (dead : List Nat) : loopI (some (.nx, E)) dead (c := ⟨s⟩) = s (kill dead E) := nr rfl
@[simp] theorem loopK_ct (dead : List Nat) : loopI (some (.ct, E)) dead (c := ⟨s⟩) = s (kill dead E) := nr rfl
@[simp] theorem loopK_bk (dead : List Nat) : loopI (some (.bk, E)) dead (c := ⟨s⟩) = some (.nx, E) := nr rfl
@[simp] theorem loopK_rt (dead : List Nat) : loopI (some (.rt d, E)) dead (c := ⟨s⟩) = some (.rt d, E) := nr rfl
theorem ev_while (dead : List Nat) (n : Nat) : sWhile t s dead (n + 1) E = tstK (t E) (fun E1 => loopK (s E1) dead (sWhile t s dead n)) fun E1 => some (.nx, E1) := by
  show (match t E with | some (false, E1) => some (Ctl.nx, E1) | some (true, E1) => (match s E1 with | some (.nx, E2) => sWhile t s dead n (kill dead E2) | some (.ct, E2) => sWhile t s dead n (kill dead E2) | some (.bk, E2) => some (.nx, E2) | some (.rt d, E2) => some (.rt d, E2) | none => none) | none => none) = _
  cases t E with
  | none => rfl
  | some x =>
    obtain ⟨v, E1⟩ := x
    cases v with
    | false => rfl
    | true =>
      show _ = loopK (s E1) dead _
      simp only
      cases s E1 with
      | none => rfl
      | some y =>
        obtain ⟨c, E2⟩ := y
        cases c <;> rfl
theorem ev_for0 (gm : Gm) (dead : List Nat) : sForL gm s dead [] E = some (.nx, E) := rfl
theorem ev_for1 (gm : Gm) (dead : List Nat) (x : D) (xs : List D) : sForL gm s dead (x :: xs) E = bnd (gm x E) fun E1 => loopK (s E1) dead (sForL gm s dead xs) := by
  show (match gm x E with | some E1 => (match s E1 with | some (.nx, E2) => sForL gm s dead xs (kill dead E2) | some (.ct, E2) => sForL gm s dead xs (kill dead E2) | some (.bk, E2) => some (.nx, E2) | some (.rt d, E2) => some (.rt d, E2) | none => none) | none => none) = _
  cases gm x E with
  | none => rfl
  | some E1 =>
    show _ = loopK (s E1) dead _
    simp only
    cases s E1 with
    | none => rfl
    | some y =>
      obtain ⟨c, E2⟩ := y
      cases c <;> rfl
@[simp] theorem ev_for (mk : Mk) (gm : Gm) (dead : List Nat) : sFor h mk gm s dead E = bnd (h E) fun x => bnd (takeL x.1 x.2) fun y => bnd (mk y.1) fun items => bnd (sForL gm s dead items y.2) fun z => some (z.1, putL x.1 y.1 (y.1.map some) z.2) := by
  unfold sFor
  cases h E with
  | none => rfl
  | some x =>
    obtain ⟨hs, E1⟩ := x
    show _ = bnd (takeL hs E1) _
    simp only
    cases takeL hs E1 with
    | none => rfl
    | some y =>
      obtain ⟨ds, E2⟩ := y
      show _ = bnd (mk ds) _
      simp only
      cases mk ds with
      | none => rfl
      | some items =>
        show _ = bnd (sForL gm s dead items E2) _
        simp only
        cases sForL gm s dead items E2 <;> rfl
/-! comprehensions -/
theorem ev_cl0 (gm : Gm) (own : List Nat) : cL gm t m own [] E = some ([], E) := rfl
theorem ev_cl1 (gm : Gm) (own : List Nat) (x : D) (xs : List D) : cL gm t m own (x :: xs) E = bnd (gm x E) fun E1 => tstK (t E1) (fun E2 => bnd (m E2) fun y => bnd (cL gm t m own xs (kill own y.2)) fun z => some (y.1 :: z.1, z.2)) fun E2 => cL gm t m own xs (kill own E2) := by
  show (match gm x E with | some E1 => (match t E1 with | some (true, E2) => (match m E2 with | some (d, E3) => (match cL gm t m own xs (kill own E3) with | some (ds, E4) => some (d :: ds, E4) | none => none) | none => none) | some (false, E2) => cL gm t m own xs (kill own E2) | none => none) | none => none) = _
  cases gm x E with
  | none => rfl
  | some E1 =>
    show _ = tstK (t E1) _ _
    simp only
    cases t E1 with
    | none => rfl
    | some y =>
      obtain ⟨v, E2⟩ := y
      cases v with
      | false => rfl
      | true =>
        show _ = bnd (m E2) _
        simp only
        cases m E2 with
        | none => rfl
        | some z =>
          obtain ⟨d, E3⟩ := z
          show _ = bnd (cL gm t m own xs (kill own E3)) _
          simp only
          cases cL gm t m own xs (kill own E3) <;> rfl
@[simp] theorem ev_yes : tYesT E = some (true, E) := nr rfl
@[simp] theorem ev_comp (mk : Mk) (own : List Nat) (gm : Gm) : xComp h mk own gm t m E = bnd (h E) fun x => bnd (takeL x.1 x.2) fun y => bnd (mk y.1) fun items => bnd (cL gm t m own items (kill own y.2)) fun z => iteK (lineOk z.1.length) (some (.lst true z.1, putL x.1 y.1 (y.1.map some) (backF own y.2 z.2))) none := by
  unfold xComp
  cases h E with
  | none => rfl
  | some x =>
    obtain ⟨hs, E1⟩ := x
    show _ = bnd (takeL hs E1) _
    simp only
    cases takeL hs E1 with
    | none => rfl
    | some y =>
      obtain ⟨ds, E2⟩ := y
      show _ = bnd (mk ds) _
      simp only
      cases mk ds with
      | none => rfl
      | some items =>
        show _ = bnd (cL gm t m own items (kill own E2)) _
        simp only
        cases cL gm t m own items (kill own E2) <;> rfl
end
end MP

/-! Operators on plain data, by simp. -/
namespace MP
open PySem PySem.Spec L2
@[simp] theorem lineOk_dec (n : Nat) : lineOk n = decide (n ≤ 16777216) := nr rfl
@[simp] theorem fz_non : D.frozen .non = true := nr rfl
@[simp] theorem fz_bl (b : Bool) : D.frozen (.bl b) = true := nr rfl
@[simp] theorem fz_int (b : Int) : D.frozen (.int b) = true := nr rfl
@[simp] theorem fz_str (b : Str) : D.frozen (.str b) = true := nr rfl
@[simp] theorem fz_scr (b : List Int) : D.frozen (.scr b) = true := nr rfl
@[simp] theorem fz_tup (o : Bool) (ds : List D) : D.frozen (.tup o ds) = (!o && frozenL ds) := by rw [D.frozen]
@[simp] theorem fz_lst (o : Bool) (ds : List D) : D.frozen (.lst o ds) = (!o && frozenL ds) := by rw [D.frozen]
@[simp] theorem fzL_nil : frozenL [] = true := nr rfl
@[simp] theorem fzL_cons (d : D) (ds : List D) : frozenL (d :: ds) = (d.frozen && frozenL ds) := by rw [frozenL]
@[simp] theorem fzL_app (ds es : List D) : frozenL (ds ++ es) = (frozenL ds && frozenL es) := by rw [frozenL_all, frozenL_all, frozenL_all, List.all_append]
@[simp] theorem rz_non : D.frz .non = .non := nr rfl
@[simp] theorem rz_bl (b : Bool) : D.frz (.bl b) = .bl b := nr rfl
@[simp] theorem rz_int (b : Int) : D.frz (.int b) = .int b := nr rfl
@[simp] theorem rz_str (b : Str) : D.frz (.str b) = .str b := nr rfl
@[simp] theorem rz_tup (o : Bool) (ds : List D) : D.frz (.tup o ds) = .tup false (frzL ds) := by rw [D.frz]
@[simp] theorem rz_lst (o : Bool) (ds : List D) : D.frz (.lst o ds) = .lst false (frzL ds) := by rw [D.frz]
@[simp] theorem rzL_nil : frzL [] = [] := nr rfl
@[simp] theorem rzL_cons (d : D) (ds : List D) : frzL (d :: ds) = d.frz :: frzL ds := by rw [frzL]
@[simp] theorem mkTup_eq (ds : List D) : mkTup ds = .tup (!frozenL ds) ds := nr rfl
@[simp] theorem add_int (i j : Int) : addD (.int i) (.int j) = some (.int (i + j)) := nr rfl
@[simp] theorem add_str (a b : Str) : addD (.str a) (.str b) = iteK (lineOk (a.length + b.length)) (some (.str (a ++ b))) none := nr rfl
@[simp] theorem add_lst (o p : Bool) (a b : List D) : addD (.lst o a) (.lst p b) = iteK (frozenL a && frozenL b && lineOk (a.length + b.length)) (some (.lst true (a ++ b))) none := nr rfl
@[simp] theorem add_tup (a b : List D) : addD (.tup false a) (.tup false b) = iteK (lineOk (a.length + b.length)) (some (.tup false (a ++ b))) none := nr rfl
@[simp] theorem sub_int (i j : Int) : subD (.int i) (.int j) = some (.int (i - j)) := nr rfl
@[simp] theorem mul_int' (i j : Int) : mulD (.int i) (.int j) = if (in64 i || in64 j) = true then some (.int (i * j)) else none := nr rfl
@[simp] theorem mod_int (i j : Int) : modD (.int i) (.int j) = if 0 < j then some (.int (i % j)) else none := nr rfl
@[simp] theorem div_int (i j : Int) : divD (.int i) (.int j) = if 0 < j ∧ j < 1073741824 then some (.int (i / j)) else none := nr rfl
@[simp] theorem pow_int (i j : Int) : powD (.int i) (.int j) = if powOk i j = true then some (.int (i ^ j.toNat)) else none := nr rfl
@[simp] theorem neg_int' (i : Int) : negD (.int i) = some (.int (-i)) := nr rfl
@[simp] theorem lt_int' (i j : Int) : ltD (.int i) (.int j) = some (.bl (decide (i < j))) := nr rfl
@[simp] theorem le_int' (i j : Int) : leD (.int i) (.int j) = some (.bl (decide (i ≤ j))) := nr rfl
@[simp] theorem gt_int' (i j : Int) : gtD (.int i) (.int j) = some (.bl (decide (j < i))) := nr rfl
@[simp] theorem ge_int' (i j : Int) : geD (.int i) (.int j) = some (.bl (decide (j ≤ i))) := nr rfl
theorem lt_str' (a b : Str) : ltD (.str a) (.str b) = some (.bl (decide (a.cps.toList < b.cps.toList))) := rfl
theorem le_str' (a b : Str) : leD (.str a) (.str b) = some (.bl (!decide (b.cps.toList < a.cps.toList))) := rfl
@[simp] theorem eq_int' (i j : Int) : eqE (.int i) (.int j) = some (.bl (i == j)) := nr rfl
@[simp] theorem eq_str' (i j : Str) : eqE (.str i) (.str j) = some (.bl (i == j)) := nr rfl
@[simp] theorem eq_bl' (i j : Bool) : eqE (.bl i) (.bl j) = some (.bl (i == j)) := nr rfl
@[simp] theorem eq_non' : eqE .non .non = some (.bl true) := nr rfl
@[simp] theorem ne_int' (i j : Int) : neE (.int i) (.int j) = some (.bl (!(i == j))) := nr rfl
@[simp] theorem ne_str' (i j : Str) : neE (.str i) (.str j) = some (.bl (!(i == j))) := nr rfl
@[simp] theorem ne_bl' (i j : Bool) : neE (.bl i) (.bl j) = some (.bl (!(i == j))) := nr rfl
@[simp] theorem isn_non : isNon .non .non = some (.bl true) := nr rfl
@[simp] theorem isn_int (i : Int) : isNon (.int i) .non = some (.bl false) := nr rfl
@[simp] theorem isn_str (i : Str) : isNon (.str i) .non = some (.bl false) := nr rfl
@[simp] theorem isn_tup (o : Bool) (ds : List D) : isNon (.tup o ds) .non = some (.bl false) := nr rfl
@[simp] theorem isn_lst (o : Bool) (ds : List D) : isNon (.lst o ds) .non = some (.bl false) := nr rfl
@[simp] theorem ntn_non : notNon .non .non = some (.bl false) := nr rfl
@[simp] theorem ntn_int (i : Int) : notNon (.int i) .non = some (.bl true) := nr rfl
@[simp] theorem ntn_str (i : Str) : notNon (.str i) .non = some (.bl true) := nr rfl
@[simp] theorem ntn_tup (o : Bool) (ds : List D) : notNon (.tup o ds) .non = some (.bl true) := nr rfl
@[simp] theorem ntn_lst (o : Bool) (ds : List D) : notNon (.lst o ds) .non = some (.bl true) := nr rfl
@[simp] theorem len_lst (o : Bool) (ds : List D) : lenD [.lst o ds] = some (.int ds.length) := nr rfl
@[simp] theorem len_tup (o : Bool) (ds : List D) : lenD [.tup o ds] = some (.int ds.length) := nr rfl
@[simp] theorem len_scr (ns : List Int) : lenD [.scr ns] = some (.int ns.length) := nr rfl
@[simp] theorem len_str (s : Str) : lenD [.str s] = if lineOk s.length = true then some (.int s.length) else none := nr rfl
@[simp] theorem abs_int' (i : Int) : absD [.int i] = some (.int (if i < 0 then -i else i)) := nr rfl
@[simp] theorem max_int' (i j : Int) : maxD [.int i, .int j] = some (.int (if j > i then j else i)) := nr rfl
@[simp] theorem min_int' (i j : Int) : minD [.int i, .int j] = some (.int (if j < i then j else i)) := nr rfl
@[simp] theorem int_int' (i : Int) : intD [.int i] = some (.int i) := nr rfl
@[simp] theorem divmod_int' (i j : Int) : divmodD [.int i, .int j] = if 0 < j ∧ j < 1073741824 then some (.tup false [.int (i / j), .int (i % j)]) else none := nr rfl
@[simp] theorem ix_lst (o : Bool) (ds : List D) (i : Int) : ixD (.lst o ds) (.int i) = bnd (atI ds i) fun d => iteK d.frozen (some d) none := by
  show (match atI ds i with | some d => if d.frozen = true then some d else none | none => none) = _
  cases atI ds i <;> rfl
@[simp] theorem ix_tup' (o : Bool) (ds : List D) (i : Int) : ixD (.tup o ds) (.int i) = bnd (atI ds i) fun d => iteK d.frozen (some d) none := by
  show (match atI ds i with | some d => if d.frozen = true then some d else none | none => none) = _
  cases atI ds i <;> rfl
@[simp] theorem ix_scr (ns : List Int) (i : Int) : ixD (.scr ns) (.int i) = bnd (atI ns i) fun n => some (.int n) := by
  show (match atI ns i with | some n => some (D.int n) | none => none) = _
  cases atI ns i <;> rfl
@[simp] theorem ix_str (s : Str) (i : Int) : ixD (.str s) (.int i) = iteK (lineOk s.length) (bnd (atI s.cps.toList i) fun c => some (signD c)) none := by
  show (if lineOk s.length = true then (match atI s.cps.toList i with | some c => some (signD c) | none => none) else none) = _
  cases h : lineOk s.length
  · rfl
  · rw [if_pos rfl]
    cases atI s.cps.toList i <;> rfl
theorem lt_one (c d : Nat) : ([c] < [d]) ↔ c < d := by
  rw [List.cons_lt_cons_iff]
  simp
@[simp] theorem parts_lst (o : Bool) (ds : List D) : partsD (.lst o ds) = some ds := nr rfl
@[simp] theorem parts_tup (o : Bool) (ds : List D) : partsD (.tup o ds) = some ds := nr rfl
@[simp] theorem parts_str (s : Str) : partsD (.str s) = none := nr rfl
@[simp] theorem parts_scr (s : List Int) : partsD (.scr s) = none := nr rfl
@[simp] theorem sl_str' (s : Str) (lo hi : Option Int) : slD (.str s) lo hi = if lineOk s.length = true then some (.str (cutS s lo hi)) else none := nr rfl
@[simp] theorem sl_lst' (o : Bool) (ds : List D) (lo hi : Option Int) : slD (.lst o ds) lo hi = if frozenL ds = true then some (.lst true (cutD ds lo hi)) else none := nr rfl
@[simp] theorem sl_tup' (ds : List D) (lo hi : Option Int) : slD (.tup false ds) lo hi = some (.tup false (cutD ds lo hi)) := nr rfl
@[simp] theorem ty_str (s : Str) : tyName (.str s) = "str" := nr rfl
@[simp] theorem rng1 (n : Int) : mkRng1 [.int n] = if smallI n = true then some (rngD 0 n.toNat) else none := nr rfl
@[simp] theorem any_lst (o : Bool) (ds : List D) : mkAny [.lst o ds] = if frozenL ds = true then some ds else none := nr rfl
@[simp] theorem any_tup (o : Bool) (ds : List D) : mkAny [.tup o ds] = if frozenL ds = true then some ds else none := nr rfl
@[simp] theorem any_str (s : Str) : mkAny [.str s] = some (s.cps.toList.map signD) := nr rfl
@[simp] theorem ixN_nat (n i : Nat) : ixN n (i : Int) = if i < n then some i else none := by
  unfold ixN
  rw [if_pos (Int.natCast_nonneg i)]
  by_cases h : i < n
  · rw [if_pos h, if_pos (by omega), Int.toNat_natCast]
  · rw [if_neg h, if_neg (by omega)]
theorem atI_nat' {α : Type} (xs : List α) (i : Nat) : atI xs (i : Int) = xs[i]? := by
  unfold atI
  rw [ixN_nat]
  split
  · rfl
  · rw [List.getElem?_eq_none_iff.mpr (by omega)]
    rfl
@[simp] theorem atI_0 {α : Type} (xs : List α) : atI xs 0 = xs[0]? := atI_nat' xs 0
@[simp] theorem atI_1 {α : Type} (xs : List α) : atI xs 1 = xs[1]? := atI_nat' xs 1
@[simp] theorem atI_2 {α : Type} (xs : List α) : atI xs 2 = xs[2]? := atI_nat' xs 2
@[simp] theorem atI_3 {α : Type} (xs : List α) : atI xs 3 = xs[3]? := atI_nat' xs 3
@[simp] theorem atI_4 {α : Type} (xs : List α) : atI xs 4 = xs[4]? := atI_nat' xs 4
@[simp] theorem atI_5 {α : Type} (xs : List α) : atI xs 5 = xs[5]? := atI_nat' xs 5
@[simp] theorem atI_6 {α : Type} (xs : List α) : atI xs 6 = xs[6]? := atI_nat' xs 6
@[simp] theorem atI_7 {α : Type} (xs : List α) : atI xs 7 = xs[7]? := atI_nat' xs 7
@[simp] theorem ixN_0 (n : Nat) : ixN n 0 = if 0 < n then some 0 else none := ixN_nat n 0
@[simp] theorem ixN_1 (n : Nat) : ixN n 1 = if 1 < n then some 1 else none := ixN_nat n 1
@[simp] theorem ixN_2 (n : Nat) : ixN n 2 = if 2 < n then some 2 else none := ixN_nat n 2
@[simp] theorem ixN_3 (n : Nat) : ixN n 3 = if 3 < n then some 3 else none := ixN_nat n 3
@[simp] theorem ixN_4 (n : Nat) : ixN n 4 = if 4 < n then some 4 else none := ixN_nat n 4
@[simp] theorem ixN_5 (n : Nat) : ixN n 5 = if 5 < n then some 5 else none := ixN_nat n 5
@[simp] theorem ixN_6 (n : Nat) : ixN n 6 = if 6 < n then some 6 else none := ixN_nat n 6
@[simp] theorem ixN_7 (n : Nat) : ixN n 7 = if 7 < n then some 7 else none := ixN_nat n 7
/-! texts by their codes -/
@[simp] theorem S_list (l : List Nat) : (S l).cps.toList = l := by simp [S]
@[simp] theorem signD_S (c : Nat) : signD c = .str (S [c]) := nr rfl
@[simp] theorem in_sign (c : Nat) (z : List Nat) : inD (.str (S [c])) (.str (S z)) = some (.bl (decide (c ∈ z))) := by
  show some (D.bl (decide (c ∈ (S z).cps.toList))) = _
  rw [S_list]
@[simp] theorem ni_sign (c : Nat) (z : List Nat) : notInD (.str (S [c])) (.str (S z)) = some (.bl (!decide (c ∈ z))) := by
  unfold notInD
  rw [in_sign]
@[simp] theorem cnt_str (a b : Str) : countD (.str a) [.str b] = some (.int (Txt.count a b)) := nr rfl
@[simp] theorem rf_str (a b : Str) : rfindD (.str a) [.str b] = some (.int (Txt.rfind a b)) := nr rfl
@[simp] theorem isd_str (s : Str) : isD "str" (.str s) = some (.bl true) := nr rfl
@[simp] theorem S_len (l : List Nat) : (S l).length = l.length := by
  show l.toArray.size = _
  simp
@[simp] theorem S_app (a b : List Nat) : S a ++ S b = S (a ++ b) := by
  show (⟨a.toArray ++ b.toArray⟩ : Str) = _
  simp [S]
@[simp] theorem S_inj (a b : List Nat) : S a = S b ↔ a = b := ⟨fun e => by simpa using congrArg (fun s : Str => s.cps.toList) e, fun e => by rw [e]⟩
theorem S_surj (s : Str) : ∃ l, s = S l := ⟨s.cps.toList, by simp [S]⟩
@[simp] theorem le_sign (a b : Nat) : leD (.str (S [a])) (.str (S [b])) = some (.bl (decide (a ≤ b))) := by
  rw [le_str', S_list, S_list]
  congr 2
  rw [Bool.eq_iff_iff, Bool.not_eq_true', decide_eq_false_iff_not, decide_eq_true_eq, lt_one]
  omega
@[simp] theorem lt_sign (a b : Nat) : ltD (.str (S [a])) (.str (S [b])) = some (.bl (decide (a < b))) := by
  rw [lt_str', S_list, S_list]
  congr 2
  rw [Bool.eq_iff_iff, decide_eq_true_eq, decide_eq_true_eq, lt_one]
@[simp] theorem cut_S (l : List Nat) (lo hi : Option Int) : cutS (S l) lo hi = S ((l.drop (HT.sIx l.length 0 lo)).take (HT.sIx l.length l.length hi - HT.sIx l.length 0 lo)) := by
  unfold cutS
  rw [S_list, S_len]
  rfl
@[simp] theorem six_n (n d : Nat) : HT.sIx n d none = d := nr rfl
@[simp] theorem six_nat (n d k : Nat) : HT.sIx n d (some (k : Int)) = min k n := HT.sIx_nat n d k
@[simp] theorem S_eq (a b : List Nat) : ((S a == S b) : Bool) = (a == b) := by
  by_cases h : a = b
  · subst h
    simp
  · have : S a ≠ S b := fun e => h (by simpa using congrArg (fun s : Str => s.cps.toList) e)
    rw [beq_eq_false_iff_ne.mpr h, beq_eq_false_iff_ne.mpr this]
@[simp] theorem in_strs2 (a b c : List Nat) (o : Bool) : inD (.str (S a)) (.tup o [.str (S b), .str (S c)]) = some (.bl (a == b || a == c)) := by
  show some (D.bl (inF (.str (S a)) [.str (S b), .str (S c)])) = _
  congr 2
  unfold inF
  simp [L2.inV, D.toV, L2.eqV, S_eq]
  rw [Bool.beq_comm (a := b), Bool.beq_comm (a := c)]
@[simp] theorem ni_strs2 (a b c : List Nat) (o : Bool) : notInD (.str (S a)) (.tup o [.str (S b), .str (S c)]) = some (.bl (!(a == b || a == c))) := by
  unfold notInD
  rw [in_strs2]
end MP

/-! Texts: places of line feeds, lines and columns. -/
namespace MP
open PySem PySem.Spec L2 PySem.StrLaws PySem.Builtin PySem.Builtin.Str
theorem snocInd {α : Type} {P : List α → Prop} (h0 : P []) (h1 : ∀ l a, P l → P (l ++ [a])) (l : List α) : P l := by
  have : ∀ r : List α, P r.reverse := fun r => by
    induction r with
    | nil => exact h0
    | cons a r ih =>
      rw [List.reverse_cons]
      exact h1 _ _ ih
  have q := this l.reverse
  rwa [List.reverse_reverse] at q
theorem occ_size (l : List Nat) (c : Nat) : ∀ (k a : Nat) (st : Array Nat × Nat), st.2 ≤ a → st.1.size ≤ a → a + k ≤ l.length + 1 →
    (forIn (List.range' a k) st (occBody (S l) ⟨#[c]⟩ l.length (l.length + 1))).run.fst.size = st.1.size + ((List.range' a k).filter fun i => decide (l[i]? = some c)).length
  | 0, a, st, _, _, _ => rfl
  | k + 1, a, st, h1, h2, h3 => by
    rw [List.range'_succ, List.forIn_cons, List.filter_cons]
    unfold occBody
    have e : (a + (⟨#[c]⟩ : Str).length ≤ l.length ∧ subAt (S l) ⟨#[c]⟩ a = true) ↔ l[a]? = some c := by
      have := subAt_one (S l) c a
      simpa using this
    by_cases hc : l[a]? = some c
    · obtain ⟨e1, e2⟩ := e.mpr hc
      rw [if_pos ⟨⟨⟨by omega, h1⟩, e1⟩, e2⟩, if_pos (by simpa using hc)]
      have := occ_size l c k (a + 1) (st.1.push a, a + (⟨#[c]⟩ : Str).length) (Nat.le_refl _) (by simp only [Array.size_push]; omega) (by omega)
      rw [List.length_cons]
      refine Eq.trans this ?_
      simp only [Array.size_push]
      omega
    · rw [if_neg (fun z => hc (e.mp ⟨z.1.2, z.2⟩)), if_neg (by simpa using hc)]
      exact occ_size l c k (a + 1) (st.1, st.2) (by show st.2 ≤ a + 1; omega) (by show st.1.size ≤ a + 1; omega) (by omega)
theorem filter_get (c : Nat) : ∀ (l : List Nat) (j : Nat), ((List.range' j l.length).filter fun i => decide (l[i - j]? = some c)).length = l.count c
  | [], _ => rfl
  | x :: l, j => by
    rw [List.length_cons, List.range'_succ, List.filter_cons, List.count_cons]
    have ih := filter_get c l (j + 1)
    have e : (List.range' (j + 1) l.length).filter (fun i => decide ((x :: l)[i - j]? = some c)) = (List.range' (j + 1) l.length).filter fun i => decide (l[i - (j + 1)]? = some c) := by
      refine List.filter_congr fun i hi => ?_
      have : j + 1 ≤ i := by
        rw [List.mem_range'] at hi
        obtain ⟨k, _, rfl⟩ := hi
        omega
      rw [show i - j = (i - (j + 1)) + 1 by omega, List.getElem?_cons_succ]
    rw [e]
    by_cases h : x = c
    · subst h
      simp [ih]
    · simp [h, ih]
theorem count_one (l : List Nat) (c : Nat) : Txt.count (S l) ⟨#[c]⟩ = (l.count c : Nat) := by
  unfold Txt.count
  rw [S_len, occ_eq, Array.length_toList, occ_size l c (l.length + 1 - 0) 0 (#[], 0) (Nat.le_refl _) (Nat.le_refl _) (by omega)]
  have h1 : (List.range' 0 (l.length + 1 - 0)).filter (fun i => decide (l[i]? = some c)) = (List.range' 0 l.length).filter fun i => decide (l[i]? = some c) := by
    rw [Nat.sub_zero, List.range'_concat, List.filter_append]
    simp
  rw [h1]
  have := filter_get c l 0
  simp only [Nat.sub_zero] at this
  rw [this]
  simp
def lastP (p : Nat → Bool) : Nat → Option Nat
  | 0 => none
  | k + 1 => if p k = true then some k else lastP p k
theorem last_loop (p : Nat → Bool) : ∀ k : Nat, (List.range' 0 k).foldl (fun r i => if p i = true then some i else r) none = lastP p k
  | 0 => rfl
  | k + 1 => by
    rw [List.range'_concat, List.foldl_append, last_loop p k]
    simp [lastP]
theorem forIn_last (p : Nat → Prop) [DecidablePred p] : ∀ (xs : List Nat) (r : Option Nat), (forIn (m := Id) xs r fun i z => if p i then pure (ForInStep.yield (some i)) else pure (ForInStep.yield z)).run = xs.foldl (fun r i => if p i then some i else r) r
  | [], _ => rfl
  | x :: xs, r => by
    rw [List.forIn_cons, List.foldl_cons]
    by_cases h : p x
    · rw [if_pos h, if_pos h]
      exact forIn_last p xs (some x)
    · rw [if_neg h, if_neg h]
      exact forIn_last p xs r
theorem last_eq (l : List Nat) (c : Nat) : lastOccurrence (S l) ⟨#[c]⟩ 0 l.length = lastP (fun i => decide (l[i]? = some c)) l.length := by
  have e : ∀ a, (decide (a + (⟨#[c]⟩ : Str).length ≤ l.length) && subAt (S l) ⟨#[c]⟩ a) = decide (l[a]? = some c) := fun a => by
    have := subAt_one (S l) c a
    rw [Bool.eq_iff_iff, Bool.and_eq_true, decide_eq_true_eq, decide_eq_true_eq]
    simpa using this
  have h : lastOccurrence (S l) ⟨#[c]⟩ 0 l.length = (List.range' 0 (l.length + 1)).foldl (fun r i => if (decide (l[i]? = some c)) = true then some i else r) none := by
    unfold lastOccurrence
    simp only [e]
    simp
    exact forIn_last (fun i => l[i]? = some c) _ _
  rw [h, last_loop]
  simp [lastP]
/-- line and column behind a beginning -/
def pl (l : List Nat) : Nat × Nat := l.foldl (fun p c => if c = 10 then (p.1 + 1, 1) else (p.1, p.2 + 1)) (1, 1)
theorem pl_snoc (l : List Nat) (c : Nat) : pl (l ++ [c]) = if c = 10 then ((pl l).1 + 1, 1) else ((pl l).1, (pl l).2 + 1) := by
  unfold pl
  rw [List.foldl_append]
  rfl
theorem lastP_congr {p q : Nat → Bool} : ∀ {n : Nat}, (∀ i, i < n → p i = q i) → lastP p n = lastP q n
  | 0, _ => rfl
  | n + 1, h => by
    unfold lastP
    rw [h n (Nat.lt_succ_self n), lastP_congr fun i hi => h i (Nat.lt_succ_of_lt hi)]
theorem rfind_one (l : List Nat) (c : Nat) : Txt.rfind (S l) ⟨#[c]⟩ = match lastP (fun i => decide (l[i]? = some c)) l.length with
  | some i => (i : Int)
  | none => -1 := by
  unfold Txt.rfind
  rw [S_len, last_eq]
  cases lastP (fun i => decide (l[i]? = some c)) l.length <;> rfl
theorem pl_line : ∀ l : List Nat, ((pl l).1 : Int) = Txt.count (S l) (S [10]) + 1 := fun l => by
  rw [show S [10] = (⟨#[10]⟩ : Str) from rfl, count_one]
  refine snocInd (P := fun l => ((pl l).1 : Int) = ((l.count 10 : Nat) : Int) + 1) rfl (fun l a ih => ?_) l
  rw [pl_snoc, List.count_append]
  by_cases h : a = 10
  · subst h
    simp
    omega
  · rw [if_neg h]
    simp [h]
    omega
theorem pl_col : ∀ l : List Nat, ((pl l).2 : Int) = (l.length : Int) - Txt.rfind (S l) (S [10]) := fun l => by
  rw [show S [10] = (⟨#[10]⟩ : Str) from rfl, rfind_one]
  refine snocInd (P := fun l => ((pl l).2 : Int) = (l.length : Int) - match lastP (fun i => decide (l[i]? = some 10)) l.length with | some i => (i : Int) | none => -1) rfl (fun l a ih => ?_) l
  rw [pl_snoc, List.length_append]
  have e : lastP (fun i => decide ((l ++ [a])[i]? = some 10)) (l.length + [a].length) = if a = 10 then some l.length else lastP (fun i => decide (l[i]? = some 10)) l.length := by
    show (if decide ((l ++ [a])[l.length]? = some 10) = true then some l.length else lastP _ l.length) = _
    rw [List.getElem?_append_right (Nat.le_refl _)]
    have : lastP (fun i => decide ((l ++ [a])[i]? = some 10)) l.length = lastP (fun i => decide (l[i]? = some 10)) l.length := lastP_congr fun i hi => by rw [List.getElem?_append_left hi]
    rw [this]
    simp
  rw [e]
  by_cases h : a = 10
  · subst h
    rw [if_pos rfl, if_pos rfl]
    simp
    omega
  · rw [if_neg h, if_neg h]
    cases hq : lastP (fun i => decide (l[i]? = some 10)) l.length with
    | none =>
      rw [hq] at ih
      simp at ih ⊢
      omega
    | some i =>
      rw [hq] at ih
      simp at ih ⊢
      omega
end MP

namespace K11
open PySem PySem.Spec L2 MP
def topS (i : Nat) : Stmt := PySem.Challenge.rw_lowland_k11_whole_tokens_and_what_is_wro.prog.main.body.getD i (.Pass ⟨0, 0, 0, 0⟩)
def kc0 : List Nat := [103, 114, 111, 117, 110, 100, 115, 101, 97]
theorem ks0 : Str.ofString "groundsea" = (S kc0) := by decide +kernel
theorem ks1 : Str.ofString "houses" = (S [104, 111, 117, 115, 101, 115]) := by decide +kernel
theorem ks2 : Str.ofString "x" = (S [120]) := by decide +kernel
theorem ks3 : Str.ofString "to" = (S [116, 111]) := by decide +kernel
def kc4 : List Nat := [97, 98, 99, 100, 101, 102, 103, 104, 105]
theorem ks4 : Str.ofString "abcdefghi" = (S kc4) := by decide +kernel
theorem ks5 : Str.ofString "abcdefgh" = (S [97, 98, 99, 100, 101, 102, 103, 104]) := by decide +kernel
theorem ks6 : Str.ofString "wall" = (S [119, 97, 108, 108]) := by decide +kernel
theorem ks7 : Str.ofString "field" = (S [102, 105, 101, 108, 100]) := by decide +kernel
theorem ks8 : Str.ofString "a" = (S [97]) := by decide +kernel
theorem ks9 : Str.ofString "100" = (S [49, 48, 48]) := by decide +kernel
theorem ks10 : Str.ofString "00" = (S [48, 48]) := by decide +kernel
theorem ks11 : Str.ofString "07" = (S [48, 55]) := by decide +kernel
theorem ks12 : Str.ofString "10000000" = (S [49, 48, 48, 48, 48, 48, 48, 48]) := by decide +kernel
theorem ks13 : Str.ofString "9999999" = (S [57, 57, 57, 57, 57, 57, 57]) := by decide +kernel
theorem ks14 : Str.ofString "42" = (S [52, 50]) := by decide +kernel
theorem ks15 : Str.ofString "7" = (S [55]) := by decide +kernel
theorem ks16 : Str.ofString "0" = (S [48]) := by decide +kernel
theorem ks17 : Str.ofString ";;" = (S [59, 59]) := by decide +kernel
theorem ks18 : Str.ofString " " = (S [32]) := by decide +kernel
theorem ks19 : Str.ofString ";" = (S [59]) := by decide +kernel
theorem ks20 : Str.ofString "~" = (S [126]) := by decide +kernel
theorem ks21 : Str.ofString "." = (S [46]) := by decide +kernel
theorem ks22 : Str.ofString "," = (S [44]) := by decide +kernel
theorem ks23 : Str.ofString "_" = (S [95]) := by decide +kernel
theorem ks24 : Str.ofString "A" = (S [65]) := by decide +kernel
theorem ks25 : Str.ofString "?" = (S [63]) := by decide +kernel
theorem ks26 : Str.ofString " \n " = (S [32, 10, 32]) := by decide +kernel
theorem ks27 : Str.ofString "  " = (S [32, 32]) := by decide +kernel
theorem ks28 : Str.ofString "\n" = (S [10]) := by decide +kernel
theorem ks29 : Str.ofString "" = (S []) := by decide +kernel
theorem ks30 : Str.ofString "Z" = (S [90]) := by decide +kernel
theorem ks31 : Str.ofString "z" = (S [122]) := by decide +kernel
theorem ks32 : Str.ofString "9" = (S [57]) := by decide +kernel
theorem ks33 : Str.ofString "#" = (S [35]) := by decide +kernel
theorem ks34 : Str.ofString "word" = (S [119, 111, 114, 100]) := by decide +kernel
theorem ks35 : Str.ofString "numeral" = (S [110, 117, 109, 101, 114, 97, 108]) := by decide +kernel
theorem ks36 : Str.ofString "sign" = (S [115, 105, 103, 110]) := by decide +kernel
theorem ks37 : Str.ofString " \n" = (S [32, 10]) := by decide +kernel
theorem ks38 : Str.ofString "long" = (S [108, 111, 110, 103]) := by decide +kernel
def kc39 : List Nat := [97, 98, 99, 100, 101, 102, 103, 104, 105, 106, 107, 108, 109, 110, 111, 112, 113, 114, 115, 116, 117, 118, 119, 120, 121, 122]
theorem ks39 : Str.ofString "abcdefghijklmnopqrstuvwxyz" = (S kc39) := by decide +kernel
def kc40 : List Nat := [48, 49, 50, 51, 52, 53, 54, 55, 56, 57]
theorem ks40 : Str.ofString "0123456789" = (S kc40) := by decide +kernel
theorem ks41 : Str.ofString " abc" = (S [32, 97, 98, 99]) := by decide +kernel
theorem ks42 : Str.ofString "\n;" = (S [10, 59]) := by decide +kernel
theorem ks43 : Str.ofString " 0" = (S [32, 48]) := by decide +kernel
theorem ks44 : Str.ofString " ?" = (S [32, 63]) := by decide +kernel
abbrev s__law_pot : Stmt := topS 36
def b__law_pot : Sm := (sSeq (sAsg (ifX (toB (op2 ltD (oN 1) (oV (opN lenD (hCons (oN 0) hNil))))) (opN absD (hCons (oV (op2 ixD (oN 0) (oN 1))) hNil)) (op2 addD (oV (op2 mulD (oV (xC (.int (1823)))) (oN 1))) (oV (xC (.int (1313)))))) (gSet 2))
  (sRet (dLst (xCons (opN maxD (hCons (oV (xC (.int (0)))) (hCons (oV (op2 subD (oN 2) (oV (op2 powD (oV (xC (.int (10)))) (oV (xC (.int (18)))))))) hNil))) (xCons (op2 addD (oV (op2 modD (oV (opN intD (hCons (oV (op2 addD (oV (op2 addD (oV (op2 mulD (oV (op2 modD (oV (opN intD (hCons (oN 2) hNil))) (oV (xC (.int (2147483549)))))) (oV (xC (.int (40009)))))) (oV (op2 mulD (oV (xC (.int (6247)))) (oN 1))))) (oV (xC (.int (1313)))))) hNil))) (oV (xC (.int (2147483563)))))) (oV (xC (.int (1))))) xNil)))))
def m__law_pot : Fm := fnM 3 [true, true] b__law_pot
theorem sc__law_pot : FnScope ["script", "k", "cell"] ["script", "k"] (defScope s__law_pot) := ⟨rfl, rfl, rfl, by decide +kernel, rfl, by decide +kernel, by decide +kernel⟩
theorem bd__law_pot {K : PySem.W.Frag} {f : Addr} {fd : FuncData} (F : Fun K "_law_pot" "_law_pot" s__law_pot f fd) : Binds K fd ["script", "k"] [] := F.binds fun _ _ _ _ _ _ us hl => match us, hl with | [_, _], _ => rfl
abbrev s__law_draw : Stmt := topS 37
def b__law_draw : Sm := (sSeq (sIf (toB (op2 gtD (oV (op2 ixD (oN 0) (oV (xC (.int (0)))))) (oV (xC (.int (0)))))) (sSeq (sAsg (opN divmodD (hCons (oV (op2 ixD (oN 0) (oV (xC (.int (0)))))) (hCons (oN 1) hNil))) (gTup' 2 (gOne (gIx 0 (oV (xC (.int (0))))) (gOne (gSet 2) gNo))))
  (sRet (xTk 2))) sSkip)
  (sSeq (sAsg (op2 modD (oV (opN intD (hCons (oV (op2 addD (oV (op2 mulD (oV (op2 ixD (oN 0) (oV (xC (.int (1)))))) (oV (xC (.int (40692)))))) (oV (xC (.int (6247)))))) hNil))) (oV (xC (.int (2147483587))))) (gIx 0 (oV (xC (.int (1))))))
  (sRet (op2 modD (oV (opN intD (hCons (oV (op2 divD (oV (op2 modD (oV (opN intD (hCons (oV (op2 mulD (oV (op2 ixD (oN 0) (oV (xC (.int (1)))))) (oV (op2 ixD (oN 0) (oV (xC (.int (1)))))))) hNil))) (oV (xC (.int (2147483563)))))) (oV (xC (.int (23)))))) hNil))) (oN 1)))))
def m__law_draw : Fm := fnM 3 [true, true] b__law_draw
theorem sc__law_draw : FnScope ["pot", "many", "digit"] ["pot", "many"] (defScope s__law_draw) := ⟨rfl, rfl, rfl, by decide +kernel, rfl, by decide +kernel, by decide +kernel⟩
theorem bd__law_draw {K : PySem.W.Frag} {f : Addr} {fd : FuncData} (F : Fun K "_law_draw" "_law_draw" s__law_draw f fd) : Binds K fd ["pot", "many"] [] := F.binds fun _ _ _ _ _ _ us hl => match us, hl with | [_, _], _ => rfl
abbrev s__law_pick : Stmt := topS 38
def b__law_pick : Sm := (sRet (op2 ixD (oN 1) (oV (xCall m__law_draw (hCons (oN 0) (hCons (oV (opN lenD (hCons (oN 1) hNil))) hNil))))))
def m__law_pick : Fm := fnM 2 [true, true] b__law_pick
theorem sc__law_pick : FnScope ["pot", "some"] ["pot", "some"] (defScope s__law_pick) := ⟨rfl, rfl, rfl, by decide +kernel, rfl, by decide +kernel, by decide +kernel⟩
theorem bd__law_pick {K : PySem.W.Frag} {f : Addr} {fd : FuncData} (F : Fun K "_law_pick" "_law_pick" s__law_pick f fd) : Binds K fd ["pot", "some"] [] := F.binds fun _ _ _ _ _ _ us hl => match us, hl with | [_, _], _ => rfl
abbrev s__law_piece : Stmt := topS 43
def b__law_piece : Sm := (sSeq (sAsg (xCall m__law_draw (hCons (oN 0) (hCons (oV (xC (.int (9)))) hNil))) (gSet 1))
  (sSeq (sIf (toB (op2 ltD (oN 1) (oV (xC (.int (3)))))) (sRet (xCall m__law_pick (hCons (oN 0) (hCons (oV (dLst (xCons (xC (.str (S [97]))) (xCons (xC (.str (S [102, 105, 101, 108, 100]))) (xCons (xC (.str (S [119, 97, 108, 108]))) (xCons (xC (.str (S [97, 98, 99, 100, 101, 102, 103, 104]))) (xCons (xC (.str (S kc4))) (xCons (xC (.str (S [116, 111]))) (xCons (xC (.str (S [120]))) (xCons (xC (.str (S [104, 111, 117, 115, 101, 115]))) (xCons (xC (.str (S kc0))) xNil))))))))))) hNil)))) sSkip)
  (sSeq (sIf (toB (op2 ltD (oN 1) (oV (xC (.int (5)))))) (sRet (xCall m__law_pick (hCons (oN 0) (hCons (oV (dLst (xCons (xC (.str (S [48]))) (xCons (xC (.str (S [55]))) (xCons (xC (.str (S [52, 50]))) (xCons (xC (.str (S [57, 57, 57, 57, 57, 57, 57]))) (xCons (xC (.str (S [49, 48, 48, 48, 48, 48, 48, 48]))) (xCons (xC (.str (S [48, 55]))) (xCons (xC (.str (S [48, 48]))) (xCons (xC (.str (S [49, 48, 48]))) xNil)))))))))) hNil)))) sSkip)
  (sSeq (sIf (toB (op2 ltD (oN 1) (oV (xC (.int (7)))))) (sRet (xCall m__law_pick (hCons (oN 0) (hCons (oV (dLst (xCons (xC (.str (S [59]))) (xCons (xC (.str (S [59]))) (xCons (xC (.str (S [32]))) (xCons (xC (.str (S [59, 59]))) xNil)))))) hNil)))) sSkip)
  (sRet (ifX (toB (op2 eqE (oN 1) (oV (xC (.int (7)))))) (xCall m__law_pick (hCons (oN 0) (hCons (oV (dLst (xCons (xC (.str (S [32]))) (xCons (xC (.str (S [10]))) (xCons (xC (.str (S [32, 32]))) (xCons (xC (.str (S [32, 10, 32]))) (xCons (xC (.str (S [63]))) (xCons (xC (.str (S [65]))) (xCons (xC (.str (S [95]))) (xCons (xC (.str (S [44]))) (xCons (xC (.str (S [46]))) (xCons (xC (.str (S [126]))) xNil)))))))))))) hNil))) (xC (.str (S [32])))))))))
def m__law_piece : Fm := fnM 2 [true] b__law_piece
theorem sc__law_piece : FnScope ["pot", "kind"] ["pot"] (defScope s__law_piece) := ⟨rfl, rfl, rfl, by decide +kernel, rfl, by decide +kernel, by decide +kernel⟩
theorem bd__law_piece {K : PySem.W.Frag} {f : Addr} {fd : FuncData} (F : Fun K "_law_piece" "_law_piece" s__law_piece f fd) : Binds K fd ["pot"] [] := F.binds fun _ _ _ _ _ _ us hl => match us, hl with | [_], _ => rfl
abbrev s__law_text : Stmt := topS 44
def cg1__law_text : Gm := (gSet 5)
theorem e_cg1__law_text (v : D) (E : En) : cg1__law_text v E = (gSet 5) v E := nr rfl
def ct1__law_text : Tx := tYesT
theorem e_ct1__law_text (E : En) : ct1__law_text E = tYesT E := nr rfl
def ce1__law_text : Ex := (xCall m__law_piece (hCons (oN 0) hNil))
theorem e_ce1__law_text (E : En) : ce1__law_text E = (xCall m__law_piece (hCons (oN 0) hNil)) E := nr rfl
def b__law_text : Sm := (sSeq (sAsg (opM "str" joinD (oV (xC (.str (S [])))) (hCons (oV (xComp (hCons (oV (xCall m__law_draw (hCons (oN 0) (hCons (oV (xC (.int (14)))) hNil)))) hNil) mkRng1 [5] cg1__law_text ct1__law_text ce1__law_text)) hNil)) (gSet 2))
  (sSeq (sAsg (xCall m__law_draw (hCons (oN 1) (hCons (oV (xC (.int (5)))) hNil))) (gSet 3))
  (sSeq (sAsg (xCall m__law_draw (hCons (oN 1) (hCons (oV (op2 addD (oV (opN lenD (hCons (oN 2) hNil))) (oV (xC (.int (1)))))) hNil))) (gSet 4))
  (sSeq (sIf (toB (op2 eqE (oN 3) (oV (xC (.int (0)))))) (sRet (op2 addD (oV (op2 addD (oV (opSl slD (oN 2) none (some (intNow (oN 4))))) (oV (xCall m__law_pick (hCons (oN 1) (hCons (oV (dLst (xCons (xC (.str (S [35]))) (xCons (xC (.str (S [48]))) (xCons (xC (.str (S [57]))) (xCons (xC (.str (S [122]))) (xCons (xC (.str (S [10]))) (xCons (xC (.str (S [90]))) (xCons (xC (.str (S [59]))) xNil))))))))) hNil)))))) (oV (opSl slD (oN 2) (some (intNow (oN 4))) none)))) sSkip)
  (sSeq (sIf (toB (op2 eqE (oN 3) (oV (xC (.int (1)))))) (sRet (op2 addD (oV (opSl slD (oN 2) none (some (intNow (oN 4))))) (oV (opSl slD (oN 2) (some (intNow (oV (op2 addD (oN 4) (oV (xC (.int (1)))))))) none)))) sSkip)
  (sSeq (sIf (andT (toB (op2 eqE (oN 3) (oV (xC (.int (2)))))) (toB (op2 eqE (oV (xCall m__law_draw (hCons (oN 1) (hCons (oV (xC (.int (3)))) hNil)))) (oV (xC (.int (0))))))) (sRet (op2 addD (oV (op2 mulD (oV (xCall m__law_pick (hCons (oN 1) (hCons (oV (dLst (xCons (xC (.str (S [32]))) (xCons (xC (.str (S [32]))) (xCons (xC (.str (S [10]))) xNil))))) hNil)))) (oV (op2 subD (oV (xC (.int (4000)))) (oV (xCall m__law_draw (hCons (oN 1) (hCons (oV (op2 addD (oV (opN lenD (hCons (oN 2) hNil))) (oV (xC (.int (20)))))) hNil)))))))) (oN 2))) sSkip)
  (sRet (xTk 2))))))))
def m__law_text : Fm := fnM 6 [true, true] b__law_text
theorem sc__law_text : FnScope ["pot", "late", "text", "way", "at", "step"] ["pot", "late"] (defScope s__law_text) := ⟨rfl, rfl, rfl, by decide +kernel, rfl, by decide +kernel, by decide +kernel⟩
theorem bd__law_text {K : PySem.W.Frag} {f : Addr} {fd : FuncData} (F : Fun K "_law_text" "_law_text" s__law_text f fd) : Binds K fd ["pot", "late"] [] := F.binds fun _ _ _ _ _ _ us hl => match us, hl with | [_, _], _ => rfl
abbrev s__law_kind_of : Stmt := topS 39
def b__law_kind_of : Sm := (sRet (ifX (toB (chT leD leD (oV (xC (.str (S [97])))) (oN 0) (oV (xC (.str (S [122])))))) (xC (.str (S [119, 111, 114, 100]))) (ifX (toB (chT leD leD (oV (xC (.str (S [48])))) (oN 0) (oV (xC (.str (S [57])))))) (xC (.str (S [110, 117, 109, 101, 114, 97, 108]))) (xC (.str (S [115, 105, 103, 110]))))))
def m__law_kind_of : Fm := fnM 1 [true] b__law_kind_of
theorem sc__law_kind_of : FnScope ["sign"] ["sign"] (defScope s__law_kind_of) := ⟨rfl, rfl, rfl, by decide +kernel, rfl, by decide +kernel, by decide +kernel⟩
theorem bd__law_kind_of {K : PySem.W.Frag} {f : Addr} {fd : FuncData} (F : Fun K "_law_kind_of" "_law_kind_of" s__law_kind_of f fd) : Binds K fd ["sign"] [] := F.binds fun _ _ _ _ _ _ us hl => match us, hl with | [_], _ => rfl
abbrev s__law_lex : Stmt := topS 40
def wc1__law_lex : Tx := (andT (toB (op2 neE (oN 6) (oV (xC (.str (S [115, 105, 103, 110])))))) (andT (toB (op2 ltD (oN 7) (oV (opN lenD (hCons (oN 0) hNil))))) (toB (op2 eqE (oV (xCall m__law_kind_of (hCons (oV (op2 ixD (oN 0) (oN 7))) hNil))) (oN 6)))))
theorem e_wc1__law_lex (E : En) : wc1__law_lex E = (andT (toB (op2 neE (oN 6) (oV (xC (.str (S [115, 105, 103, 110])))))) (andT (toB (op2 ltD (oN 7) (oV (opN lenD (hCons (oN 0) hNil))))) (toB (op2 eqE (oV (xCall m__law_kind_of (hCons (oV (op2 ixD (oN 0) (oN 7))) hNil))) (oN 6))))) E := nr rfl
def wb1__law_lex : Sm := (sAsg (op2 addD (oN 7) (oV (xC (.int (1))))) (gSet 7))
theorem e_wb1__law_lex (E : En) : wb1__law_lex E = (sAsg (op2 addD (oN 7) (oV (xC (.int (1))))) (gSet 7)) E := nr rfl
def wc2__law_lex : Tx := (toB (op2 ltD (oN 3) (oV (opN lenD (hCons (oN 0) hNil)))))
theorem e_wc2__law_lex (E : En) : wc2__law_lex E = (toB (op2 ltD (oN 3) (oV (opN lenD (hCons (oN 0) hNil))))) E := nr rfl
def wb2__law_lex : Sm := (sSeq (sIf (toB (op2 inD (oV (op2 ixD (oN 0) (oN 3))) (oV (xC (.str (S [32, 10])))))) (sSeq (sAsg (ifX (toB (op2 eqE (oV (op2 ixD (oN 0) (oN 3))) (oV (xC (.str (S [10])))))) (dTup (xCons (op2 addD (oN 4) (oV (xC (.int (1))))) (xCons (xC (.int (1))) xNil))) (dTup (xCons (xTk 4) (xCons (op2 addD (oN 5) (oV (xC (.int (1))))) xNil)))) (gTup' 2 (gOne (gSet 4) (gOne (gSet 5) gNo))))
  (sSeq (sAsg (op2 addD (oN 3) (oV (xC (.int (1))))) (gSet 3))
  sCont)) sSkip)
  (sSeq (sPar 6 7 (xCons (xCall m__law_kind_of (hCons (oV (op2 ixD (oN 0) (oN 3))) hNil)) (xCons (op2 addD (oN 3) (oV (xC (.int (1))))) xNil)))
  (sSeq (sK [] (sWhile wc1__law_lex wb1__law_lex [] fu))
  (sSeq (sAsg (opSl slD (oN 0) (some (intNow (oN 3))) (some (intNow (oN 7)))) (gSet 8))
  (sSeq (sIf (andT (toB (op2 eqE (oN 6) (oV (xC (.str (S [115, 105, 103, 110])))))) (toB (op2 neE (oN 8) (oV (xC (.str (S [59]))))))) (sDrop (xAppend 2 (xCons (dTup (xCons (xSh 4) (xCons (xSh 5) (xCons (xC (.int (0))) (xCons (xC (.str (S [115, 105, 103, 110]))) xNil))))) xNil))) sSkip)
  (sSeq (sIf (andT (toB (op2 eqE (oN 6) (oV (xC (.str (S [110, 117, 109, 101, 114, 97, 108])))))) (orT (toB (op2 gtD (oV (opN lenD (hCons (oN 8) hNil))) (oV (xC (.int (7)))))) (andT (toB (op2 eqE (oV (op2 ixD (oN 8) (oV (xC (.int (0)))))) (oV (xC (.str (S [48])))))) (toB (op2 neE (oN 8) (oV (xC (.str (S [48]))))))))) (sDrop (xAppend 2 (xCons (dTup (xCons (xSh 4) (xCons (xSh 5) (xCons (xC (.int (1))) (xCons (xC (.str (S [110, 117, 109, 101, 114, 97, 108]))) xNil))))) xNil))) sSkip)
  (sSeq (sAsg (andX (op2 gtD (oN 3) (oV (xC (.int (0))))) (andX (op2 neE (oN 6) (oV (xC (.str (S [115, 105, 103, 110]))))) (andX (op2 notInD (oV (op2 ixD (oN 0) (oV (op2 subD (oN 3) (oV (xC (.int (1)))))))) (oV (xC (.str (S [32, 10]))))) (op2 notInD (oV (xCall m__law_kind_of (hCons (oV (op2 ixD (oN 0) (oV (op2 subD (oN 3) (oV (xC (.int (1)))))))) hNil))) (oV (dTup (xCons (xC (.str (S [115, 105, 103, 110]))) (xCons (xSh 6) xNil)))))))) (gSet 9))
  (sSeq (sIf (orT (andT (toB (op2 eqE (oN 6) (oV (xC (.str (S [119, 111, 114, 100])))))) (toB (op2 gtD (oV (opN lenD (hCons (oN 8) hNil))) (oV (xC (.int (8))))))) (toB (xTk 9))) (sDrop (xAppend 2 (xCons (dTup (xCons (xSh 4) (xCons (xSh 5) (xCons (xC (.int (2))) (xCons (xC (.str (S [119, 111, 114, 100]))) xNil))))) xNil))) sSkip)
  (sSeq (sDrop (xAppend 1 (xCons (dTup (xCons (xTk 8) (xCons (dTup (xCons (xSh 4) (xCons (xSh 5) xNil))) xNil))) xNil)))
  (sPar 3 5 (xCons (xSh 7) (xCons (op2 subD (oV (op2 addD (oN 5) (oN 7))) (oN 3)) xNil))))))))))))
theorem e_wb2__law_lex (E : En) : wb2__law_lex E = (sSeq (sIf (toB (op2 inD (oV (op2 ixD (oN 0) (oN 3))) (oV (xC (.str (S [32, 10])))))) (sSeq (sAsg (ifX (toB (op2 eqE (oV (op2 ixD (oN 0) (oN 3))) (oV (xC (.str (S [10])))))) (dTup (xCons (op2 addD (oN 4) (oV (xC (.int (1))))) (xCons (xC (.int (1))) xNil))) (dTup (xCons (xTk 4) (xCons (op2 addD (oN 5) (oV (xC (.int (1))))) xNil)))) (gTup' 2 (gOne (gSet 4) (gOne (gSet 5) gNo))))
  (sSeq (sAsg (op2 addD (oN 3) (oV (xC (.int (1))))) (gSet 3))
  sCont)) sSkip)
  (sSeq (sPar 6 7 (xCons (xCall m__law_kind_of (hCons (oV (op2 ixD (oN 0) (oN 3))) hNil)) (xCons (op2 addD (oN 3) (oV (xC (.int (1))))) xNil)))
  (sSeq (sK [] (sWhile wc1__law_lex wb1__law_lex [] fu))
  (sSeq (sAsg (opSl slD (oN 0) (some (intNow (oN 3))) (some (intNow (oN 7)))) (gSet 8))
  (sSeq (sIf (andT (toB (op2 eqE (oN 6) (oV (xC (.str (S [115, 105, 103, 110])))))) (toB (op2 neE (oN 8) (oV (xC (.str (S [59]))))))) (sDrop (xAppend 2 (xCons (dTup (xCons (xSh 4) (xCons (xSh 5) (xCons (xC (.int (0))) (xCons (xC (.str (S [115, 105, 103, 110]))) xNil))))) xNil))) sSkip)
  (sSeq (sIf (andT (toB (op2 eqE (oN 6) (oV (xC (.str (S [110, 117, 109, 101, 114, 97, 108])))))) (orT (toB (op2 gtD (oV (opN lenD (hCons (oN 8) hNil))) (oV (xC (.int (7)))))) (andT (toB (op2 eqE (oV (op2 ixD (oN 8) (oV (xC (.int (0)))))) (oV (xC (.str (S [48])))))) (toB (op2 neE (oN 8) (oV (xC (.str (S [48]))))))))) (sDrop (xAppend 2 (xCons (dTup (xCons (xSh 4) (xCons (xSh 5) (xCons (xC (.int (1))) (xCons (xC (.str (S [110, 117, 109, 101, 114, 97, 108]))) xNil))))) xNil))) sSkip)
  (sSeq (sAsg (andX (op2 gtD (oN 3) (oV (xC (.int (0))))) (andX (op2 neE (oN 6) (oV (xC (.str (S [115, 105, 103, 110]))))) (andX (op2 notInD (oV (op2 ixD (oN 0) (oV (op2 subD (oN 3) (oV (xC (.int (1)))))))) (oV (xC (.str (S [32, 10]))))) (op2 notInD (oV (xCall m__law_kind_of (hCons (oV (op2 ixD (oN 0) (oV (op2 subD (oN 3) (oV (xC (.int (1)))))))) hNil))) (oV (dTup (xCons (xC (.str (S [115, 105, 103, 110]))) (xCons (xSh 6) xNil)))))))) (gSet 9))
  (sSeq (sIf (orT (andT (toB (op2 eqE (oN 6) (oV (xC (.str (S [119, 111, 114, 100])))))) (toB (op2 gtD (oV (opN lenD (hCons (oN 8) hNil))) (oV (xC (.int (8))))))) (toB (xTk 9))) (sDrop (xAppend 2 (xCons (dTup (xCons (xSh 4) (xCons (xSh 5) (xCons (xC (.int (2))) (xCons (xC (.str (S [119, 111, 114, 100]))) xNil))))) xNil))) sSkip)
  (sSeq (sDrop (xAppend 1 (xCons (dTup (xCons (xTk 8) (xCons (dTup (xCons (xSh 4) (xCons (xSh 5) xNil))) xNil))) xNil)))
  (sPar 3 5 (xCons (xSh 7) (xCons (op2 subD (oV (op2 addD (oN 5) (oN 7))) (oN 3)) xNil)))))))))))) E := nr rfl
def b__law_lex : Sm := (sSeq (sAsg (dTup (xCons (dLst xNil) (xCons (dLst xNil) (xCons (xC (.int (0))) (xCons (xC (.int (1))) (xCons (xC (.int (1))) xNil)))))) (gTup' 5 (gOne (gSet 1) (gOne (gSet 2) (gOne (gSet 3) (gOne (gSet 4) (gOne (gSet 5) gNo)))))))
  (sSeq (sK [6, 7, 8, 9] (sWhile wc2__law_lex wb2__law_lex [6, 7, 8, 9] fu))
  (sRet (dTup (xCons (xTk 1) (xCons (xTk 2) xNil))))))
def m__law_lex : Fm := fnM 10 [true] b__law_lex
theorem sc__law_lex : FnScope ["text", "found", "faults", "at", "line", "column", "kind", "end", "token", "beside"] ["text"] (defScope s__law_lex) := ⟨rfl, rfl, rfl, by decide +kernel, rfl, by decide +kernel, by decide +kernel⟩
theorem bd__law_lex {K : PySem.W.Frag} {f : Addr} {fd : FuncData} (F : Fun K "_law_lex" "_law_lex" s__law_lex f fd) : Binds K fd ["text"] [] := F.binds fun _ _ _ _ _ _ us hl => match us, hl with | [_], _ => rfl
abbrev s__law_place_at : Stmt := topS 41
def b__law_place_at : Sm := (sRet (dTup (xCons (op2 addD (oV (opM "str" countD (oV (opSl slD (oN 0) none (some (intNow (oN 1))))) (hCons (oV (xC (.str (S [10])))) hNil))) (oV (xC (.int (1))))) (xCons (op2 subD (oN 1) (oV (opM "str" rfindD (oV (opSl slD (oN 0) none (some (intNow (oN 1))))) (hCons (oV (xC (.str (S [10])))) hNil)))) xNil))))
def m__law_place_at : Fm := fnM 2 [true, true] b__law_place_at
theorem sc__law_place_at : FnScope ["text", "at"] ["text", "at"] (defScope s__law_place_at) := ⟨rfl, rfl, rfl, by decide +kernel, rfl, by decide +kernel, by decide +kernel⟩
theorem bd__law_place_at {K : PySem.W.Frag} {f : Addr} {fd : FuncData} (F : Fun K "_law_place_at" "_law_place_at" s__law_place_at f fd) : Binds K fd ["text", "at"] [] := F.binds fun _ _ _ _ _ _ us hl => match us, hl with | [_, _], _ => rfl
abbrev s__law_lexed : Stmt := topS 42
def cg1__law_lexed : Gm := (gSet 4)
theorem e_cg1__law_lexed (v : D) (E : En) : cg1__law_lexed v E = (gSet 4) v E := nr rfl
def ct1__law_lexed : Tx := (toB (op2 ltD (oV (op2 ixD (oN 4) (oV (xC (.int (1)))))) (oV (opSl slD (oN 3) none (some (intNow (oV (xC (.int (2))))))))))
theorem e_ct1__law_lexed (E : En) : ct1__law_lexed E = (toB (op2 ltD (oV (op2 ixD (oN 4) (oV (xC (.int (1)))))) (oV (opSl slD (oN 3) none (some (intNow (oV (xC (.int (2)))))))))) E := nr rfl
def ce1__law_lexed : Ex := (xTk 4)
theorem e_ce1__law_lexed (E : En) : ce1__law_lexed E = (xTk 4) E := nr rfl
def b__law_lexed : Sm := (sSeq (sAsg (xCall m__law_lex (hCons (oN 0) hNil)) (gTup' 2 (gOne (gSet 1) (gOne (gSet 2) gNo))))
  (sSeq (sIf (toB (op2 gtD (oV (opN lenD (hCons (oN 0) hNil))) (oV (xC (.int (4000)))))) (sDrop (xAppend 2 (xCons (op2 addD (oV (xCall m__law_place_at (hCons (oN 0) (hCons (oV (xC (.int (4000)))) hNil)))) (oV (dTup (xCons (xC (.int (3))) (xCons (xC (.str (S [108, 111, 110, 103]))) xNil))))) xNil))) sSkip)
  (sSeq (sIf (toB (op2 eqE (oN 2) (oV (dLst xNil)))) (sRet (dTup (xCons (xTk 1) (xCons (xC .non) xNil)))) sSkip)
  (sSeq (sAsg (altX (ixOwn (opN sortTD (hCons (oN 2) hNil)) (oV (xC (.int (0))))) (op2 ixD (oV (opN sortTD (hCons (oN 2) hNil))) (oV (xC (.int (0)))))) (gSet 3))
  (sRet (dTup (xCons (xComp (hCons (oN 1) hNil) mkAny [4] cg1__law_lexed ct1__law_lexed ce1__law_lexed) (xCons (op2 addD (oV (dTup (xCons (op2 ixD (oN 3) (oV (xC (.int (3))))) xNil))) (oV (opSl slD (oN 3) none (some (intNow (oV (xC (.int (2))))))))) xNil))))))))
def m__law_lexed : Fm := fnM 5 [true] b__law_lexed
theorem sc__law_lexed : FnScope ["text", "found", "faults", "first", "one"] ["text"] (defScope s__law_lexed) := ⟨rfl, rfl, rfl, by decide +kernel, rfl, by decide +kernel, by decide +kernel⟩
theorem bd__law_lexed {K : PySem.W.Frag} {f : Addr} {fd : FuncData} (F : Fun K "_law_lexed" "_law_lexed" s__law_lexed f fd) : Binds K fd ["text"] [] := F.binds fun _ _ _ _ _ _ us hl => match us, hl with | [_], _ => rfl
abbrev s_check_text : Stmt := topS 18
def b_check_text : Sm := (sIf (notT (toB (op1 (isD "str") (oN 0)))) sNever sSkip)
def m_check_text : Fm := fnM 1 [true] b_check_text
theorem sc_check_text : FnScope ["text"] ["text"] (defScope s_check_text) := ⟨rfl, rfl, rfl, by decide +kernel, rfl, by decide +kernel, by decide +kernel⟩
theorem bd_check_text {K : PySem.W.Frag} {f : Addr} {fd : FuncData} (F : Fun K "check_text" "check_text" s_check_text f fd) : Binds K fd ["text"] [] := F.binds fun _ _ _ _ _ _ us hl => match us, hl with | [_], _ => rfl
abbrev s_signs_of : Stmt := topS 13
def b_signs_of : Sm := (sSeq (sIf (toB (op2 inD (oN 0) (oV (xC (.str (S kc39)))))) (sRet (xC (.str (S kc39)))) sSkip)
  (sRet (ifX (toB (op2 inD (oN 0) (oV (xC (.str (S kc40)))))) (xC (.str (S kc40))) (xC (.str (S []))))))
def m_signs_of : Fm := fnM 1 [true] b_signs_of
theorem sc_signs_of : FnScope ["sign"] ["sign"] (defScope s_signs_of) := ⟨rfl, rfl, rfl, by decide +kernel, rfl, by decide +kernel, by decide +kernel⟩
theorem bd_signs_of {K : PySem.W.Frag} {f : Addr} {fd : FuncData} (F : Fun K "signs_of" "signs_of" s_signs_of f fd) : Binds K fd ["sign"] [] := F.binds fun _ _ _ _ _ _ us hl => match us, hl with | [_], _ => rfl
abbrev s_wrong_with : Stmt := topS 15
def b_wrong_with : Sm := (sSeq (sIf (andT (toB (op2 eqE (oV (xCall m_signs_of (hCons (oV (op2 ixD (oN 0) (oV (xC (.int (0)))))) hNil))) (oV (xC (.str (S [])))))) (toB (op2 neE (oN 0) (oV (xC (.str (S [59]))))))) (sRet (xC (.str (S [115, 105, 103, 110])))) sSkip)
  (sSeq (sIf (andT (toB (op2 inD (oV (op2 ixD (oN 0) (oV (xC (.int (0)))))) (oV (xC (.str (S kc40)))))) (orT (toB (op2 gtD (oV (opN lenD (hCons (oN 0) hNil))) (oV (xC (.int (7)))))) (andT (toB (op2 gtD (oV (opN lenD (hCons (oN 0) hNil))) (oV (xC (.int (1)))))) (toB (op2 eqE (oV (op2 ixD (oN 0) (oV (xC (.int (0)))))) (oV (xC (.str (S [48]))))))))) (sRet (xC (.str (S [110, 117, 109, 101, 114, 97, 108])))) sSkip)
  (sSeq (sIf (orT (andT (toB (op2 inD (oV (op2 ixD (oN 0) (oV (xC (.int (0)))))) (oV (xC (.str (S kc39)))))) (toB (op2 gtD (oV (opN lenD (hCons (oN 0) hNil))) (oV (xC (.int (8))))))) (andT (toB (xSh 1)) (toB (op2 neE (oN 0) (oV (xC (.str (S [59])))))))) (sRet (xC (.str (S [119, 111, 114, 100])))) sSkip)
  (sRet (xC .non)))))
def m_wrong_with : Fm := fnM 2 [true, true] b_wrong_with
theorem sc_wrong_with : FnScope ["token", "is_behind"] ["token", "is_behind"] (defScope s_wrong_with) := ⟨rfl, rfl, rfl, by decide +kernel, rfl, by decide +kernel, by decide +kernel⟩
theorem bd_wrong_with {K : PySem.W.Frag} {f : Addr} {fd : FuncData} (F : Fun K "wrong_with" "wrong_with" s_wrong_with f fd) : Binds K fd ["token", "is_behind"] [] := F.binds fun _ _ _ _ _ _ us hl => match us, hl with | [_, _], _ => rfl
abbrev s_run_at : Stmt := topS 14
def wc1_run_at : Tx := (andT (toB (op2 neE (oN 2) (oV (xC (.str (S [])))))) (andT (toB (op2 ltD (oN 3) (oV (opN lenD (hCons (oN 0) hNil))))) (toB (op2 inD (oV (op2 ixD (oN 0) (oN 3))) (oN 2)))))
theorem e_wc1_run_at (E : En) : wc1_run_at E = (andT (toB (op2 neE (oN 2) (oV (xC (.str (S [])))))) (andT (toB (op2 ltD (oN 3) (oV (opN lenD (hCons (oN 0) hNil))))) (toB (op2 inD (oV (op2 ixD (oN 0) (oN 3))) (oN 2))))) E := nr rfl
def wb1_run_at : Sm := (sAsg (op2 addD (oN 3) (oV (xC (.int (1))))) (gSet 3))
theorem e_wb1_run_at (E : En) : wb1_run_at E = (sAsg (op2 addD (oN 3) (oV (xC (.int (1))))) (gSet 3)) E := nr rfl
def b_run_at : Sm := (sSeq (sPar 2 3 (xCons (xCall m_signs_of (hCons (oV (op2 ixD (oN 0) (oN 1))) hNil)) (xCons (op2 addD (oN 1) (oV (xC (.int (1))))) xNil)))
  (sSeq (sK [] (sWhile wc1_run_at wb1_run_at [] fu))
  (sRet (opSl slD (oN 0) (some (intNow (oN 1))) (some (intNow (oN 3)))))))
def m_run_at : Fm := fnM 4 [true, true] b_run_at
theorem sc_run_at : FnScope ["text", "at", "some", "end"] ["text", "at"] (defScope s_run_at) := ⟨rfl, rfl, rfl, by decide +kernel, rfl, by decide +kernel, by decide +kernel⟩
theorem bd_run_at {K : PySem.W.Frag} {f : Addr} {fd : FuncData} (F : Fun K "run_at" "run_at" s_run_at f fd) : Binds K fd ["text", "at"] [] := F.binds fun _ _ _ _ _ _ us hl => match us, hl with | [_, _], _ => rfl
abbrev s_place_behind : Stmt := topS 12
def b_place_behind : Sm := (sRet (dTup (xCons (op2 addD (oV (opM "str" countD (oN 0) (hCons (oV (xC (.str (S [10])))) hNil))) (oV (xC (.int (1))))) (xCons (op2 subD (oV (opN lenD (hCons (oN 0) hNil))) (oV (opM "str" rfindD (oN 0) (hCons (oV (xC (.str (S [10])))) hNil)))) xNil))))
def m_place_behind : Fm := fnM 1 [true] b_place_behind
theorem sc_place_behind : FnScope ["text"] ["text"] (defScope s_place_behind) := ⟨rfl, rfl, rfl, by decide +kernel, rfl, by decide +kernel, by decide +kernel⟩
theorem bd_place_behind {K : PySem.W.Frag} {f : Addr} {fd : FuncData} (F : Fun K "place_behind" "place_behind" s_place_behind f fd) : Binds K fd ["text"] [] := F.binds fun _ _ _ _ _ _ us hl => match us, hl with | [_], _ => rfl
abbrev s_scanned : Stmt := topS 16
def wc1_scanned : Tx := (toB (op2 ltD (oN 2) (oV (opN lenD (hCons (oN 0) hNil)))))
theorem e_wc1_scanned (E : En) : wc1_scanned E = (toB (op2 ltD (oN 2) (oV (opN lenD (hCons (oN 0) hNil))))) E := nr rfl
def wb1_scanned : Sm := (sSeq (sIf (toB (op2 inD (oV (op2 ixD (oN 0) (oN 2))) (oV (xC (.str (S [32, 10])))))) (sSeq (sPar 2 3 (xCons (op2 addD (oN 2) (oV (xC (.int (1))))) (xCons (xC (.bl false)) xNil)))
  sCont) sSkip)
  (sSeq (sPar 4 5 (xCons (xCall m_run_at (hCons (oN 0) (hCons (oN 2) hNil))) (xCons (xCall m_place_behind (hCons (oV (opSl slD (oN 0) none (some (intNow (oN 2))))) hNil)) xNil)))
  (sSeq (sAsg (xCall m_wrong_with (hCons (oN 4) (hCons (oN 3) hNil))) (gSet 6))
  (sSeq (sIf (toB (op2 notNon (oN 6) (oV (xC .non)))) (sRet (dTup (xCons (xTk 1) (xCons (op2 addD (oV (dTup (xCons (xTk 6) xNil))) (oN 5)) xNil)))) sSkip)
  (sSeq (sDrop (xAppend 1 (xCons (dTup (xCons (xSh 4) (xCons (xTk 5) xNil))) xNil)))
  (sPar 2 3 (xCons (op2 addD (oN 2) (oV (opN lenD (hCons (oN 4) hNil)))) (xCons (op2 neE (oN 4) (oV (xC (.str (S [59]))))) xNil))))))))
theorem e_wb1_scanned (E : En) : wb1_scanned E = (sSeq (sIf (toB (op2 inD (oV (op2 ixD (oN 0) (oN 2))) (oV (xC (.str (S [32, 10])))))) (sSeq (sPar 2 3 (xCons (op2 addD (oN 2) (oV (xC (.int (1))))) (xCons (xC (.bl false)) xNil)))
  sCont) sSkip)
  (sSeq (sPar 4 5 (xCons (xCall m_run_at (hCons (oN 0) (hCons (oN 2) hNil))) (xCons (xCall m_place_behind (hCons (oV (opSl slD (oN 0) none (some (intNow (oN 2))))) hNil)) xNil)))
  (sSeq (sAsg (xCall m_wrong_with (hCons (oN 4) (hCons (oN 3) hNil))) (gSet 6))
  (sSeq (sIf (toB (op2 notNon (oN 6) (oV (xC .non)))) (sRet (dTup (xCons (xTk 1) (xCons (op2 addD (oV (dTup (xCons (xTk 6) xNil))) (oN 5)) xNil)))) sSkip)
  (sSeq (sDrop (xAppend 1 (xCons (dTup (xCons (xSh 4) (xCons (xTk 5) xNil))) xNil)))
  (sPar 2 3 (xCons (op2 addD (oN 2) (oV (opN lenD (hCons (oN 4) hNil)))) (xCons (op2 neE (oN 4) (oV (xC (.str (S [59]))))) xNil)))))))) E := nr rfl
def b_scanned : Sm := (sSeq (sPar3 1 2 3 (xCons (dLst xNil) (xCons (xC (.int (0))) (xCons (xC (.bl false)) xNil))))
  (sSeq (sK [4, 5, 6] (sWhile wc1_scanned wb1_scanned [4, 5, 6] fu))
  (sRet (dTup (xCons (xTk 1) (xCons (xC .non) xNil))))))
def m_scanned : Fm := fnM 7 [true] b_scanned
theorem sc_scanned : FnScope ["text", "found", "at", "is_behind", "token", "place", "word"] ["text"] (defScope s_scanned) := ⟨rfl, rfl, rfl, by decide +kernel, rfl, by decide +kernel, by decide +kernel⟩
theorem bd_scanned {K : PySem.W.Frag} {f : Addr} {fd : FuncData} (F : Fun K "scanned" "scanned" s_scanned f fd) : Binds K fd ["text"] [] := F.binds fun _ _ _ _ _ _ us hl => match us, hl with | [_], _ => rfl
abbrev s_looked_over : Stmt := topS 17
def cg1_looked_over : Gm := (gSet 4)
theorem e_cg1_looked_over (v : D) (E : En) : cg1_looked_over v E = (gSet 4) v E := nr rfl
def ct1_looked_over : Tx := (toB (op2 ltD (oV (op2 ixD (oN 4) (oV (xC (.int (1)))))) (oN 3)))
theorem e_ct1_looked_over (E : En) : ct1_looked_over E = (toB (op2 ltD (oV (op2 ixD (oN 4) (oV (xC (.int (1)))))) (oN 3))) E := nr rfl
def ce1_looked_over : Ex := (xTk 4)
theorem e_ce1_looked_over (E : En) : ce1_looked_over E = (xTk 4) E := nr rfl
def b_looked_over : Sm := (sSeq (sAsg (xCall m_scanned (hCons (oN 0) hNil)) (gTup' 2 (gOne (gSet 1) (gOne (gSet 2) gNo))))
  (sSeq (sIf (toB (op2 gtD (oV (opN lenD (hCons (oN 0) hNil))) (oV (xC (.int (4000)))))) (sSeq (sAsg (xCall m_place_behind (hCons (oV (opSl slD (oN 0) none (some (intNow (oV (xC (.int (4000)))))))) hNil)) (gSet 3))
  (sIf (orT (toB (op2 isNon (oN 2) (oV (xC .non)))) (toB (op2 ltD (oN 3) (oV (opSl slD (oN 2) (some (intNow (oV (xC (.int (1)))))) none))))) (sRet (dTup (xCons (xComp (hCons (oN 1) hNil) mkAny [4] cg1_looked_over ct1_looked_over ce1_looked_over) (xCons (op2 addD (oV (dTup (xCons (xC (.str (S [108, 111, 110, 103]))) xNil))) (oN 3)) xNil)))) sSkip)) sSkip)
  (sRet (dTup (xCons (xTk 1) (xCons (xTk 2) xNil))))))
def m_looked_over : Fm := fnM 5 [true] b_looked_over
theorem sc_looked_over : FnScope ["text", "found", "fault", "place", "one"] ["text"] (defScope s_looked_over) := ⟨rfl, rfl, rfl, by decide +kernel, rfl, by decide +kernel, by decide +kernel⟩
theorem bd_looked_over {K : PySem.W.Frag} {f : Addr} {fd : FuncData} (F : Fun K "looked_over" "looked_over" s_looked_over f fd) : Binds K fd ["text"] [] := F.binds fun _ _ _ _ _ _ us hl => match us, hl with | [_], _ => rfl
abbrev s_tokens : Stmt := topS 19
def b_tokens : Sm := (sSeq (sDrop (xCall m_check_text (hCons (oN 0) hNil)))
  (sRet (altX (ixOwn (xCall m_looked_over (hCons (oN 0) hNil)) (oV (xC (.int (0))))) (op2 ixD (oV (xCall m_looked_over (hCons (oN 0) hNil))) (oV (xC (.int (0))))))))
def m_tokens : Fm := fnM 1 [true] b_tokens
theorem sc_tokens : FnScope ["text"] ["text"] (defScope s_tokens) := ⟨rfl, rfl, rfl, by decide +kernel, rfl, by decide +kernel, by decide +kernel⟩
theorem bd_tokens {K : PySem.W.Frag} {f : Addr} {fd : FuncData} (F : Fun K "tokens" "tokens" s_tokens f fd) : Binds K fd ["text"] [] := F.binds fun _ _ _ _ _ _ us hl => match us, hl with | [_], _ => rfl
theorem kb_tokens_0_text {K : PySem.W.Frag} {f : Addr} {fd : FuncData} (F : Fun K "tokens" "tokens" s_tokens f fd) : KB K fd ["text"] ["text"] 0 [0] := kb_of F fun _ _ _ _ _ _ us ws h1 h2 => match us, ws, h1, h2 with | [], [_], _, _ => rfl
abbrev s_token_fault : Stmt := topS 20
def b_token_fault : Sm := (sSeq (sDrop (xCall m_check_text (hCons (oN 0) hNil)))
  (sRet (altX (ixOwn (xCall m_looked_over (hCons (oN 0) hNil)) (oV (xC (.int (1))))) (op2 ixD (oV (xCall m_looked_over (hCons (oN 0) hNil))) (oV (xC (.int (1))))))))
def m_token_fault : Fm := fnM 1 [true] b_token_fault
theorem sc_token_fault : FnScope ["text"] ["text"] (defScope s_token_fault) := ⟨rfl, rfl, rfl, by decide +kernel, rfl, by decide +kernel, by decide +kernel⟩
theorem bd_token_fault {K : PySem.W.Frag} {f : Addr} {fd : FuncData} (F : Fun K "token_fault" "token_fault" s_token_fault f fd) : Binds K fd ["text"] [] := F.binds fun _ _ _ _ _ _ us hl => match us, hl with | [_], _ => rfl
theorem kb_token_fault_0_text {K : PySem.W.Frag} {f : Addr} {fd : FuncData} (F : Fun K "token_fault" "token_fault" s_token_fault f fd) : KB K fd ["text"] ["text"] 0 [0] := kb_of F fun _ _ _ _ _ _ us ws h1 h2 => match us, ws, h1, h2 with | [], [_], _, _ => rfl
abbrev s_fault_by : Stmt := topS 33
def b_fault_by : Sm := (sSeq (sAsg (altX (ixOwn (xCall m_looked_over (hCons (oN 0) hNil)) (oV (xC (.int (1))))) (op2 ixD (oV (xCall m_looked_over (hCons (oN 0) hNil))) (oV (xC (.int (1)))))) (gSet 1))
  (sSeq (sIf (toB (op2 notNon (oN 1) (oV (xC .non)))) (sRet (xTk 1)) sSkip)
  sNever))
def m_fault_by : Fm := fnM 6 [true] b_fault_by
theorem sc_fault_by : FnScope ["text", "fault", "found", "pile", "place", "is_much"] ["text"] (defScope s_fault_by) := ⟨rfl, rfl, rfl, by decide +kernel, rfl, by decide +kernel, by decide +kernel⟩
theorem bd_fault_by {K : PySem.W.Frag} {f : Addr} {fd : FuncData} (F : Fun K "fault_by" "fault_by" s_fault_by f fd) : Binds K fd ["text"] [] := F.binds fun _ _ _ _ _ _ us hl => match us, hl with | [_], _ => rfl
abbrev s_letter_fault : Stmt := topS 34
def b_letter_fault : Sm := (sSeq (sDrop (xCall m_check_text (hCons (oN 0) hNil)))
  (sRet (xCall m_fault_by (hCons (oN 0) hNil))))
def m_letter_fault : Fm := fnM 1 [true] b_letter_fault
theorem sc_letter_fault : FnScope ["text"] ["text"] (defScope s_letter_fault) := ⟨rfl, rfl, rfl, by decide +kernel, rfl, by decide +kernel, by decide +kernel⟩
theorem bd_letter_fault {K : PySem.W.Frag} {f : Addr} {fd : FuncData} (F : Fun K "letter_fault" "letter_fault" s_letter_fault f fd) : Binds K fd ["text"] [] := F.binds fun _ _ _ _ _ _ us hl => match us, hl with | [_], _ => rfl
theorem kb_letter_fault_0_text {K : PySem.W.Frag} {f : Addr} {fd : FuncData} (F : Fun K "letter_fault" "letter_fault" s_letter_fault f fd) : KB K fd ["text"] ["text"] 0 [0] := kb_of F fun _ _ _ _ _ _ us ws h1 h2 => match us, ws, h1, h2 with | [], [_], _, _ => rfl
abbrev s_law : Stmt := topS 45
def wg1_law : Gm := (gSet 3)
theorem e_wg1_law (v : D) (E : En) : wg1_law v E = (gSet 3) v E := nr rfl
def wb1_law : Sm := (sSeq (sAsg (xCall m__law_text (hCons (oN 1) (hCons (oN 2) hNil))) (gSet 4))
  (sSeq (sAsg (xCall m__law_lexed (hCons (oN 4) hNil)) (gTup' 2 (gOne (gSet 5) (gOne (gSet 6) gNo))))
  (sSeq (sAsg (xCall m_tokens (hCons (oN 4) hNil)) (gSet 7))
  (sSeq (sIf (toB (op2 neE (oV (reprL (hCons (oN 7) (hCons (oV (xCall m_tokens (hPick 0 1 [0] hNil (hCons (oN 4) hNil)))) (hCons (oV (xCall m_token_fault (hCons (oN 4) hNil))) (hCons (oV (xCall m_token_fault (hPick 0 1 [0] hNil (hCons (oN 4) hNil)))) hNil)))))) (oV (reprL (hCons (oN 5) (hCons (oN 5) (hCons (oN 6) (hCons (oN 6) hNil)))))))) (sRet (xC (.bl false))) sSkip)
  (sSeq (sDrop (xAppend 7 (xCons (xC .non) xNil)))
  (sSeq (sIf (orT (toB (op2 neE (oV (opN reprD (hCons (oV (xCall m_tokens (hCons (oN 4) hNil))) hNil))) (oV (opN reprD (hCons (oN 5) hNil))))) (andT (toB (op2 notNon (oN 6) (oV (xC .non)))) (toB (op2 neE (oV (reprL (hCons (oV (xCall m_letter_fault (hCons (oN 4) hNil))) (hCons (oV (xCall m_letter_fault (hPick 0 1 [0] hNil (hCons (oN 4) hNil)))) hNil)))) (oV (reprL (hCons (oN 6) (hCons (oN 6) hNil)))))))) (sRet (xC (.bl false))) sSkip)
  (sSeq (sAsg (op2 addD (oN 4) (oV (xCall m__law_pick (hCons (oN 2) (hCons (oV (dLst (xCons (xC (.str (S [32, 63]))) (xCons (xC (.str (S [32, 48]))) (xCons (xC (.str (S [10, 59]))) (xCons (xC (.str (S [32, 97, 98, 99]))) xNil)))))) hNil))))) (gSet 8))
  (sIf (andT (toB (op2 notNon (oN 6) (oV (xC .non)))) (andT (toB (op2 ltD (oV (opN lenD (hCons (oN 8) hNil))) (oV (xC (.int (4000)))))) (toB (op2 neE (oV (reprL (hCons (oV (xCall m_tokens (hCons (oN 8) hNil))) (hCons (oV (xCall m_token_fault (hCons (oN 8) hNil))) hNil)))) (oV (reprL (hCons (oN 5) (hCons (oN 6) hNil)))))))) (sRet (xC (.bl false))) sSkip))))))))
theorem e_wb1_law (E : En) : wb1_law E = (sSeq (sAsg (xCall m__law_text (hCons (oN 1) (hCons (oN 2) hNil))) (gSet 4))
  (sSeq (sAsg (xCall m__law_lexed (hCons (oN 4) hNil)) (gTup' 2 (gOne (gSet 5) (gOne (gSet 6) gNo))))
  (sSeq (sAsg (xCall m_tokens (hCons (oN 4) hNil)) (gSet 7))
  (sSeq (sIf (toB (op2 neE (oV (reprL (hCons (oN 7) (hCons (oV (xCall m_tokens (hPick 0 1 [0] hNil (hCons (oN 4) hNil)))) (hCons (oV (xCall m_token_fault (hCons (oN 4) hNil))) (hCons (oV (xCall m_token_fault (hPick 0 1 [0] hNil (hCons (oN 4) hNil)))) hNil)))))) (oV (reprL (hCons (oN 5) (hCons (oN 5) (hCons (oN 6) (hCons (oN 6) hNil)))))))) (sRet (xC (.bl false))) sSkip)
  (sSeq (sDrop (xAppend 7 (xCons (xC .non) xNil)))
  (sSeq (sIf (orT (toB (op2 neE (oV (opN reprD (hCons (oV (xCall m_tokens (hCons (oN 4) hNil))) hNil))) (oV (opN reprD (hCons (oN 5) hNil))))) (andT (toB (op2 notNon (oN 6) (oV (xC .non)))) (toB (op2 neE (oV (reprL (hCons (oV (xCall m_letter_fault (hCons (oN 4) hNil))) (hCons (oV (xCall m_letter_fault (hPick 0 1 [0] hNil (hCons (oN 4) hNil)))) hNil)))) (oV (reprL (hCons (oN 6) (hCons (oN 6) hNil)))))))) (sRet (xC (.bl false))) sSkip)
  (sSeq (sAsg (op2 addD (oN 4) (oV (xCall m__law_pick (hCons (oN 2) (hCons (oV (dLst (xCons (xC (.str (S [32, 63]))) (xCons (xC (.str (S [32, 48]))) (xCons (xC (.str (S [10, 59]))) (xCons (xC (.str (S [32, 97, 98, 99]))) xNil)))))) hNil))))) (gSet 8))
  (sIf (andT (toB (op2 notNon (oN 6) (oV (xC .non)))) (andT (toB (op2 ltD (oV (opN lenD (hCons (oN 8) hNil))) (oV (xC (.int (4000)))))) (toB (op2 neE (oV (reprL (hCons (oV (xCall m_tokens (hCons (oN 8) hNil))) (hCons (oV (xCall m_token_fault (hCons (oN 8) hNil))) hNil)))) (oV (reprL (hCons (oN 5) (hCons (oN 6) hNil)))))))) (sRet (xC (.bl false))) sSkip)))))))) E := nr rfl
def b_law : Sm := (sSeq (sPar 1 2 (xCons (xCall m__law_pot (hCons (oN 0) (hCons (oV (xC (.int (0)))) hNil))) (xCons (xCall m__law_pot (hCons (oN 0) (hCons (oV (xC (.int (1)))) hNil))) xNil)))
  (sSeq (sK [3, 4, 5, 6, 7, 8] (sFor (hCons (oV (xC (.int (10)))) hNil) mkRng1 wg1_law wb1_law [3, 4, 5, 6, 7, 8]))
  (sRet (xC (.bl true)))))
def m_law : Fm := fnM 9 [true] b_law
theorem sc_law : FnScope ["script", "pot", "late", "step", "text", "found", "fault", "told", "more"] ["script"] (defScope s_law) := ⟨rfl, rfl, rfl, by decide +kernel, rfl, by decide +kernel, by decide +kernel⟩
theorem bd_law {K : PySem.W.Frag} {f : Addr} {fd : FuncData} (F : Fun K "law" "law" s_law f fd) : Binds K fd ["script"] [] := F.binds fun _ _ _ _ _ _ us hl => match us, hl with | [_], _ => rfl
/-- what the module binds -/
structure Facts (P : Program) (w : World) (K : PySem.W.Frag) (mg : Str → Option Value) : Prop where
  f__law_pot : FnIn K mg "_law_pot" s__law_pot
  f__law_draw : FnIn K mg "_law_draw" s__law_draw
  f__law_pick : FnIn K mg "_law_pick" s__law_pick
  f__law_piece : FnIn K mg "_law_piece" s__law_piece
  f__law_text : FnIn K mg "_law_text" s__law_text
  f__law_kind_of : FnIn K mg "_law_kind_of" s__law_kind_of
  f__law_lex : FnIn K mg "_law_lex" s__law_lex
  f__law_place_at : FnIn K mg "_law_place_at" s__law_place_at
  f__law_lexed : FnIn K mg "_law_lexed" s__law_lexed
  f_check_text : FnIn K mg "check_text" s_check_text
  f_signs_of : FnIn K mg "signs_of" s_signs_of
  f_wrong_with : FnIn K mg "wrong_with" s_wrong_with
  f_run_at : FnIn K mg "run_at" s_run_at
  f_place_behind : FnIn K mg "place_behind" s_place_behind
  f_scanned : FnIn K mg "scanned" s_scanned
  f_looked_over : FnIn K mg "looked_over" s_looked_over
  f_tokens : FnIn K mg "tokens" s_tokens
  f_token_fault : FnIn K mg "token_fault" s_token_fault
  f_fault_by : FnIn K mg "fault_by" s_fault_by
  f_letter_fault : FnIn K mg "letter_fault" s_letter_fault
  f_law : FnIn K mg "law" s_law
  z_abs : mg "abs" = none
  z_divmod : mg "divmod" = none
  z_int : mg "int" = none
  z_isinstance : mg "isinstance" = none
  z_len : mg "len" = none
  z_max : mg "max" = none
  z_range : mg "range" = none
  z_repr : mg "repr" = none
  z_sorted : mg "sorted" = none
  z_str : mg "str" = none
  g_BLANKS : GD ⟨P, w, K⟩ mg "BLANKS" (.str (S [32, 10]))
  g_DIGITS : GD ⟨P, w, K⟩ mg "DIGITS" (.str (S kc40))
  g_LETTERS : GD ⟨P, w, K⟩ mg "LETTERS" (.str (S kc39))
  g_MOST_DIGITS : GD ⟨P, w, K⟩ mg "MOST_DIGITS" (.int (7))
  g_MOST_LETTERS : GD ⟨P, w, K⟩ mg "MOST_LETTERS" (.int (8))
  g_MOST_SIGNS : GD ⟨P, w, K⟩ mg "MOST_SIGNS" (.int (4000))
  g_SIGN : GD ⟨P, w, K⟩ mg "SIGN" (.str (S [59]))
section
variable {P : Program} {w : World} {K : PySem.W.Frag} {mg : Str → Option Value}
abbrev sl__law_pot : List Str := ["script", "k", "cell"]
theorem ok__law_pot (B : Facts P w K mg) {f : Addr} {fd : FuncData} (Fn : Fun K "_law_pot" "_law_pot" s__law_pot f fd) (base : Heap) : FnG P w K mg base 1 f fd ["script", "k"] m__law_pot := ok_def (pin := pinL [0, 1]) Fn sc__law_pot rfl (pins_ok rfl) fun cdv A outer s H hr gd =>
  (ms_cons (ms_asg (mv_if (mt_lt hr (on_ (pv 1)) (ov (mv_blt call_len ok_len (by rfl) B.z_len (by decide +kernel) (mh_cons (on_ (pv 0)) mh_nil)))) (mv_blt call_abs ok_abs (by rfl) B.z_abs (by decide +kernel) (mh_cons (ov (mv_ixD (on_ (pv 0)) (on_ (pv 1)))) mh_nil)) (mv_add (ov (mv_mul (ov mv_int) (on_ (pv 1)))) (ov mv_int))) (mg_name (pg_name (i := 2) sc__law_pot.nd rfl (.inl rfl)) rfl))
  (ms_one (ms_ret (mv_lst (ma_cons (mv_blt (call_max2 rfl) ok_max (by rfl) B.z_max (by decide +kernel) (mh_cons (ov mv_int) (mh_cons (ov (mv_sub (on_ (pv 2)) (ov (mv_pow (ov mv_int) (ov mv_int))))) mh_nil))) (ma_cons (mv_add (ov (mv_mod (ov (mv_bty call_int1 ok_int (by rfl) B.z_int (by decide +kernel) (mh_cons (ov (mv_add (ov (mv_add (ov (mv_mul (ov (mv_mod (ov (mv_bty call_int1 ok_int (by rfl) B.z_int (by decide +kernel) (mh_cons (on_ (pv 2)) mh_nil))) (ov mv_int))) (ov mv_int))) (ov (mv_mul (ov mv_int) (on_ (pv 1)))))) (ov mv_int))) mh_nil))) (ov mv_int))) (ov mv_int)) ma_nil))))))
theorem cal__law_pot (B : Facts P w K mg) (base : Heap) : Cal P w K mg base 1 "_law_pot" s__law_pot ["script", "k"] m__law_pot := let ⟨f, fd, h, F⟩ := B.f__law_pot; ⟨f, fd, ok__law_pot B F base, h, F⟩
abbrev sl__law_draw : List Str := ["pot", "many", "digit"]
theorem ok__law_draw (B : Facts P w K mg) {f : Addr} {fd : FuncData} (Fn : Fun K "_law_draw" "_law_draw" s__law_draw f fd) (base : Heap) : FnG P w K mg base 1 f fd ["pot", "many"] m__law_draw := ok_def (pin := pinL [0, 1]) Fn sc__law_draw rfl (pins_ok rfl) fun cdv A outer s H hr gd =>
  (ms_cons (ms_if (mt_gt (ov (mv_ixD (on_ (pv 0)) (ov mv_int))) (ov mv_int)) (ms_cons (ms_asg (mv_blt call_divmod ok_divmod (by rfl) B.z_divmod (by decide +kernel) (mh_cons (ov (mv_ixD (on_ (pv 0)) (ov mv_int))) (mh_cons (on_ (pv 1)) mh_nil))) (mg_tup rfl (mgs_cons (mg_ix (pv 0) (ov mv_int)) (mgs_cons (mg_name (pg_name (i := 2) sc__law_draw.nd rfl (.inl rfl)) rfl) mgs_nil))))
  (ms_one (ms_ret (mv_tk (pv 2))))) ms_nil)
  (ms_cons (ms_asg (mv_mod (ov (mv_bty call_int1 ok_int (by rfl) B.z_int (by decide +kernel) (mh_cons (ov (mv_add (ov (mv_mul (ov (mv_ixD (on_ (pv 0)) (ov mv_int))) (ov mv_int))) (ov mv_int))) mh_nil))) (ov mv_int)) (mg_ix (pv 0) (ov mv_int)))
  (ms_one (ms_ret (mv_mod (ov (mv_bty call_int1 ok_int (by rfl) B.z_int (by decide +kernel) (mh_cons (ov (mv_div (ov (mv_mod (ov (mv_bty call_int1 ok_int (by rfl) B.z_int (by decide +kernel) (mh_cons (ov (mv_mul (ov (mv_ixD (on_ (pv 0)) (ov mv_int))) (ov (mv_ixD (on_ (pv 0)) (ov mv_int))))) mh_nil))) (ov mv_int))) (ov mv_int))) mh_nil))) (on_ (pv 1)))))))
theorem cal__law_draw (B : Facts P w K mg) (base : Heap) : Cal P w K mg base 1 "_law_draw" s__law_draw ["pot", "many"] m__law_draw := let ⟨f, fd, h, F⟩ := B.f__law_draw; ⟨f, fd, ok__law_draw B F base, h, F⟩
abbrev sl__law_pick : List Str := ["pot", "some"]
theorem ok__law_pick (B : Facts P w K mg) {f : Addr} {fd : FuncData} (Fn : Fun K "_law_pick" "_law_pick" s__law_pick f fd) (base : Heap) : FnG P w K mg base 2 f fd ["pot", "some"] m__law_pick := ok_def (pin := pinL [0, 1]) Fn sc__law_pick rfl (pins_ok rfl) fun cdv A outer s H hr gd =>
  (ms_one (ms_ret (mv_ixD (on_ (pv 1)) (ov (mv_c (cal__law_draw B base) bd__law_draw hr (by decide) gd (by rfl) (mh_cons (on_ (pv 0)) (mh_cons (ov (mv_blt call_len ok_len (by rfl) B.z_len (by decide +kernel) (mh_cons (on_ (pv 1)) mh_nil))) mh_nil)))))))
theorem cal__law_pick (B : Facts P w K mg) (base : Heap) : Cal P w K mg base 2 "_law_pick" s__law_pick ["pot", "some"] m__law_pick := let ⟨f, fd, h, F⟩ := B.f__law_pick; ⟨f, fd, ok__law_pick B F base, h, F⟩
abbrev sl__law_piece : List Str := ["pot", "kind"]
theorem ok__law_piece (B : Facts P w K mg) {f : Addr} {fd : FuncData} (Fn : Fun K "_law_piece" "_law_piece" s__law_piece f fd) (base : Heap) : FnG P w K mg base 3 f fd ["pot"] m__law_piece := ok_def (pin := pinL [0]) Fn sc__law_piece rfl (pins_ok rfl) fun cdv A outer s H hr gd =>
  (ms_cons (ms_asg (mv_c (cal__law_draw B base) bd__law_draw hr (by decide) gd (by rfl) (mh_cons (on_ (pv 0)) (mh_cons (ov mv_int) mh_nil))) (mg_name (pg_name (i := 1) sc__law_piece.nd rfl (.inl rfl)) rfl))
  (ms_cons (ms_if (mt_lt hr (on_ (pv 1)) (ov mv_int)) (ms_one (ms_ret (mv_c (cal__law_pick B base) bd__law_pick hr (by decide) gd (by rfl) (mh_cons (on_ (pv 0)) (mh_cons (ov (mv_lst (ma_cons (mv_strS ks8) (ma_cons (mv_strS ks7) (ma_cons (mv_strS ks6) (ma_cons (mv_strS ks5) (ma_cons (mv_strS ks4) (ma_cons (mv_strS ks3) (ma_cons (mv_strS ks2) (ma_cons (mv_strS ks1) (ma_cons (mv_strS ks0) ma_nil))))))))))) mh_nil))))) ms_nil)
  (ms_cons (ms_if (mt_lt hr (on_ (pv 1)) (ov mv_int)) (ms_one (ms_ret (mv_c (cal__law_pick B base) bd__law_pick hr (by decide) gd (by rfl) (mh_cons (on_ (pv 0)) (mh_cons (ov (mv_lst (ma_cons (mv_strS ks16) (ma_cons (mv_strS ks15) (ma_cons (mv_strS ks14) (ma_cons (mv_strS ks13) (ma_cons (mv_strS ks12) (ma_cons (mv_strS ks11) (ma_cons (mv_strS ks10) (ma_cons (mv_strS ks9) ma_nil)))))))))) mh_nil))))) ms_nil)
  (ms_cons (ms_if (mt_lt hr (on_ (pv 1)) (ov mv_int)) (ms_one (ms_ret (mv_c (cal__law_pick B base) bd__law_pick hr (by decide) gd (by rfl) (mh_cons (on_ (pv 0)) (mh_cons (ov (mv_lst (ma_cons (mv_strS ks19) (ma_cons (mv_strS ks19) (ma_cons (mv_strS ks18) (ma_cons (mv_strS ks17) ma_nil)))))) mh_nil))))) ms_nil)
  (ms_one (ms_ret (mv_if (mt_eq hr (on_ (pv 1)) (ov mv_int)) (mv_c (cal__law_pick B base) bd__law_pick hr (by decide) gd (by rfl) (mh_cons (on_ (pv 0)) (mh_cons (ov (mv_lst (ma_cons (mv_strS ks18) (ma_cons (mv_strS ks28) (ma_cons (mv_strS ks27) (ma_cons (mv_strS ks26) (ma_cons (mv_strS ks25) (ma_cons (mv_strS ks24) (ma_cons (mv_strS ks23) (ma_cons (mv_strS ks22) (ma_cons (mv_strS ks21) (ma_cons (mv_strS ks20) ma_nil)))))))))))) mh_nil))) (mv_strS ks18))))))))
theorem cal__law_piece (B : Facts P w K mg) (base : Heap) : Cal P w K mg base 3 "_law_piece" s__law_piece ["pot"] m__law_piece := let ⟨f, fd, h, F⟩ := B.f__law_piece; ⟨f, fd, ok__law_piece B F base, h, F⟩
abbrev sl__law_text : List Str := ["pot", "late", "text", "way", "at", "step"]
theorem ok__law_text (B : Facts P w K mg) {f : Addr} {fd : FuncData} (Fn : Fun K "_law_text" "_law_text" s__law_text f fd) (base : Heap) : FnG P w K mg base 4 f fd ["pot", "late"] m__law_text := ok_def (pin := pinL [0, 1]) Fn sc__law_text rfl (pins_ok rfl) fun cdv A outer s H hr gd =>
  (ms_cons (ms_asg (mv_meth ok_join (.inl rfl) PySem.F.plainAttrs_str PySem.F.slot_str_join PySem.F.type_str_join mt_join (ov (mv_strS ks29)) (mh_cons (ov (mv_lc (own := [("step", 5)]) (g := cg1__law_text) (t := ct1__law_text) (e := ce1__law_text) rfl sc__law_text.nd (mi_rng1 (by rfl) B.z_range (mh_cons (ov (mv_c (cal__law_draw B base) bd__law_draw hr (by decide) gd (by rfl) (mh_cons (on_ (pv 0)) (mh_cons (ov mv_int) mh_nil)))) mh_nil)) (blkOk_by (own := [("step", 5)]) (N := sl__law_text) (sc := defScope s__law_text) (by decide +kernel)) (fun _ _ _ _ _ => (mg_name (pg_name (i := 5) sc__law_text.nd rfl (.inl rfl)) rfl)) (fun _ _ _ _ _ => mpts_nil) (fun _ _ _ _ _ => (mv_c (cal__law_piece B base) bd__law_piece hr (by decide) gd (by rfl) (mh_cons (on_ (pv 0)) mh_nil))))) mh_nil)) (mg_name (pg_name (i := 2) sc__law_text.nd rfl (.inl rfl)) rfl))
  (ms_cons (ms_asg (mv_c (cal__law_draw B base) bd__law_draw hr (by decide) gd (by rfl) (mh_cons (on_ (pv 1)) (mh_cons (ov mv_int) mh_nil))) (mg_name (pg_name (i := 3) sc__law_text.nd rfl (.inl rfl)) rfl))
  (ms_cons (ms_asg (mv_c (cal__law_draw B base) bd__law_draw hr (by decide) gd (by rfl) (mh_cons (on_ (pv 1)) (mh_cons (ov (mv_add (ov (mv_blt call_len ok_len (by rfl) B.z_len (by decide +kernel) (mh_cons (on_ (pv 2)) mh_nil))) (ov mv_int))) mh_nil))) (mg_name (pg_name (i := 4) sc__law_text.nd rfl (.inl rfl)) rfl))
  (ms_cons (ms_if (mt_eq hr (on_ (pv 3)) (ov mv_int)) (ms_one (ms_ret (mv_add (ov (mv_add (ov (mv_sl (on_ (pv 2)) mp_none (mp_some (on_ (pv 4))))) (ov (mv_c (cal__law_pick B base) bd__law_pick hr (by decide) gd (by rfl) (mh_cons (on_ (pv 1)) (mh_cons (ov (mv_lst (ma_cons (mv_strS ks33) (ma_cons (mv_strS ks16) (ma_cons (mv_strS ks32) (ma_cons (mv_strS ks31) (ma_cons (mv_strS ks28) (ma_cons (mv_strS ks30) (ma_cons (mv_strS ks19) ma_nil))))))))) mh_nil)))))) (ov (mv_sl (on_ (pv 2)) (mp_some (on_ (pv 4))) mp_none))))) ms_nil)
  (ms_cons (ms_if (mt_eq hr (on_ (pv 3)) (ov mv_int)) (ms_one (ms_ret (mv_add (ov (mv_sl (on_ (pv 2)) mp_none (mp_some (on_ (pv 4))))) (ov (mv_sl (on_ (pv 2)) (mp_some (ov (mv_add (on_ (pv 4)) (ov mv_int)))) mp_none))))) ms_nil)
  (ms_cons (ms_if (PW.pt (mw_and (mt_eq hr (on_ (pv 3)) (ov mv_int)) (mw_and1 (mt_eq hr (ov (mv_c (cal__law_draw B base) bd__law_draw hr (by decide) gd (by rfl) (mh_cons (on_ (pv 1)) (mh_cons (ov mv_int) mh_nil)))) (ov mv_int))))) (ms_one (ms_ret (mv_add (ov (mv_mul (ov (mv_c (cal__law_pick B base) bd__law_pick hr (by decide) gd (by rfl) (mh_cons (on_ (pv 1)) (mh_cons (ov (mv_lst (ma_cons (mv_strS ks18) (ma_cons (mv_strS ks18) (ma_cons (mv_strS ks28) ma_nil))))) mh_nil)))) (ov (mv_sub (ov mv_int) (ov (mv_c (cal__law_draw B base) bd__law_draw hr (by decide) gd (by rfl) (mh_cons (on_ (pv 1)) (mh_cons (ov (mv_add (ov (mv_blt call_len ok_len (by rfl) B.z_len (by decide +kernel) (mh_cons (on_ (pv 2)) mh_nil))) (ov mv_int))) mh_nil)))))))) (on_ (pv 2))))) ms_nil)
  (ms_one (ms_ret (mv_tk (pv 2))))))))))
theorem cal__law_text (B : Facts P w K mg) (base : Heap) : Cal P w K mg base 4 "_law_text" s__law_text ["pot", "late"] m__law_text := let ⟨f, fd, h, F⟩ := B.f__law_text; ⟨f, fd, ok__law_text B F base, h, F⟩
abbrev sl__law_kind_of : List Str := ["sign"]
theorem ok__law_kind_of (B : Facts P w K mg) {f : Addr} {fd : FuncData} (Fn : Fun K "_law_kind_of" "_law_kind_of" s__law_kind_of f fd) (base : Heap) : FnG P w K mg base 1 f fd ["sign"] m__law_kind_of := ok_def (pin := pinL [0]) Fn sc__law_kind_of rfl (pins_ok rfl) fun cdv A outer s H hr gd =>
  (ms_one (ms_ret (mv_if (mt_chain (op_leD) (op_leD) ok_le ok_le (ov (mv_strS ks8)) (on_ (pv 0)) (ov (mv_strS ks31))) (mv_strS ks34) (mv_if (mt_chain (op_leD) (op_leD) ok_le ok_le (ov (mv_strS ks16)) (on_ (pv 0)) (ov (mv_strS ks32))) (mv_strS ks35) (mv_strS ks36)))))
theorem cal__law_kind_of (B : Facts P w K mg) (base : Heap) : Cal P w K mg base 1 "_law_kind_of" s__law_kind_of ["sign"] m__law_kind_of := let ⟨f, fd, h, F⟩ := B.f__law_kind_of; ⟨f, fd, ok__law_kind_of B F base, h, F⟩
abbrev sl__law_lex : List Str := ["text", "found", "faults", "at", "line", "column", "kind", "end", "token", "beside"]
theorem ok__law_lex (B : Facts P w K mg) {f : Addr} {fd : FuncData} (Fn : Fun K "_law_lex" "_law_lex" s__law_lex f fd) (base : Heap) : FnG P w K mg base 2 f fd ["text"] m__law_lex := ok_def (pin := pinL [0]) Fn sc__law_lex rfl (pins_ok rfl) fun cdv A outer s H hr gd =>
  (ms_cons (ms_asg (mv_tup (ma_cons (mv_lst ma_nil) (ma_cons (mv_lst ma_nil) (ma_cons mv_int (ma_cons mv_int (ma_cons mv_int ma_nil)))))) (mg_tup rfl (mgs_cons (mg_name (pg_name (i := 1) sc__law_lex.nd rfl (.inl rfl)) rfl) (mgs_cons (mg_name (pg_name (i := 2) sc__law_lex.nd rfl (.inl rfl)) rfl) (mgs_cons (mg_name (pg_name (i := 3) sc__law_lex.nd rfl (.inl rfl)) rfl) (mgs_cons (mg_name (pg_name (i := 4) sc__law_lex.nd rfl (.inl rfl)) rfl) (mgs_cons (mg_name (pg_name (i := 5) sc__law_lex.nd rfl (.inl rfl)) rfl) mgs_nil)))))))
  (ms_cons (ms_k1 (ms_while (t := wc2__law_lex) (b := wb2__law_lex) PassesOwn.never (mt_lt hr (on_ (pv 3)) (ov (mv_blt call_len ok_len (by rfl) B.z_len (by decide +kernel) (mh_cons (on_ (pv 0)) mh_nil)))) (ms_cons (ms_if (mt_in hr (ov (mv_ixD (on_ (pv 0)) (on_ (pv 3)))) (ov (mv_strS ks37))) (ms_cons (ms_asg (mv_if (mt_eq hr (ov (mv_ixD (on_ (pv 0)) (on_ (pv 3)))) (ov (mv_strS ks28))) (mv_tup (ma_cons (mv_add (on_ (pv 4)) (ov mv_int)) (ma_cons mv_int ma_nil))) (mv_tup (ma_cons (mv_tk (pv 4)) (ma_cons (mv_add (on_ (pv 5)) (ov mv_int)) ma_nil)))) (mg_tup rfl (mgs_cons (mg_name (pg_name (i := 4) sc__law_lex.nd rfl (.inl rfl)) rfl) (mgs_cons (mg_name (pg_name (i := 5) sc__law_lex.nd rfl (.inl rfl)) rfl) mgs_nil))))
  (ms_cons (ms_asg (mv_add (on_ (pv 3)) (ov mv_int)) (mg_name (pg_name (i := 3) sc__law_lex.nd rfl (.inl rfl)) rfl))
  (ms_one ms_cont))) ms_nil)
  (ms_cons (ms_par (ps_par rfl sc__law_lex.nd rfl rfl (by decide) rfl rfl (ma_cons (mv_c (cal__law_kind_of B base) bd__law_kind_of hr (by decide) gd (by rfl) (mh_cons (ov (mv_ixD (on_ (pv 0)) (on_ (pv 3)))) mh_nil)) (ma_cons (mv_add (on_ (pv 3)) (ov mv_int)) ma_nil)) rfl) rfl rfl)
  (ms_cons (ms_k1 (ms_while (t := wc1__law_lex) (b := wb1__law_lex) PassesOwn.never (PW.pt (mw_and (mt_ne hr (on_ (pv 6)) (ov (mv_strS ks36))) (mw_and (mt_lt hr (on_ (pv 7)) (ov (mv_blt call_len ok_len (by rfl) B.z_len (by decide +kernel) (mh_cons (on_ (pv 0)) mh_nil)))) (mw_and1 (mt_eq hr (ov (mv_c (cal__law_kind_of B base) bd__law_kind_of hr (by decide) gd (by rfl) (mh_cons (ov (mv_ixD (on_ (pv 0)) (on_ (pv 7)))) mh_nil))) (on_ (pv 6))))))) (ms_one (ms_asg (mv_add (on_ (pv 7)) (ov mv_int)) (mg_name (pg_name (i := 7) sc__law_lex.nd rfl (.inl rfl)) rfl)))))
  (ms_cons (ms_asg (mv_sl (on_ (pv 0)) (mp_some (on_ (pv 3))) (mp_some (on_ (pv 7)))) (mg_name (pg_name (i := 8) sc__law_lex.nd rfl (.inl rfl)) rfl))
  (ms_cons (ms_if (PW.pt (mw_and (mt_eq hr (on_ (pv 6)) (ov (mv_strS ks36))) (mw_and1 (mt_ne hr (on_ (pv 8)) (ov (mv_strS ks19)))))) (ms_one (ms_drop (mv_append (pv 2) (ma_cons (mv_tup (ma_cons (mv_sh (pv 4)) (ma_cons (mv_sh (pv 5)) (ma_cons mv_int (ma_cons (mv_strS ks36) ma_nil))))) ma_nil)))) ms_nil)
  (ms_cons (ms_if (PW.pt (mw_and (mt_eq hr (on_ (pv 6)) (ov (mv_strS ks35))) (mw_and1 (PW.pt (mw_or (mt_gt (ov (mv_blt call_len ok_len (by rfl) B.z_len (by decide +kernel) (mh_cons (on_ (pv 8)) mh_nil))) (ov mv_int)) (mw_or1 (PW.pt (mw_and (mt_eq hr (ov (mv_ixD (on_ (pv 8)) (ov mv_int))) (ov (mv_strS ks16))) (mw_and1 (mt_ne hr (on_ (pv 8)) (ov (mv_strS ks16)))))))))))) (ms_one (ms_drop (mv_append (pv 2) (ma_cons (mv_tup (ma_cons (mv_sh (pv 4)) (ma_cons (mv_sh (pv 5)) (ma_cons mv_int (ma_cons (mv_strS ks35) ma_nil))))) ma_nil)))) ms_nil)
  (ms_cons (ms_asg (mv_and (mv_gt (on_ (pv 3)) (ov mv_int)) (mv_and (mv_ne hr (on_ (pv 6)) (ov (mv_strS ks36))) (mv_and (mv_notIn hr (ov (mv_ixD (on_ (pv 0)) (ov (mv_sub (on_ (pv 3)) (ov mv_int))))) (ov (mv_strS ks37))) (mv_one (mv_notIn hr (ov (mv_c (cal__law_kind_of B base) bd__law_kind_of hr (by decide) gd (by rfl) (mh_cons (ov (mv_ixD (on_ (pv 0)) (ov (mv_sub (on_ (pv 3)) (ov mv_int))))) mh_nil))) (ov (mv_tup (ma_cons (mv_strS ks36) (ma_cons (mv_sh (pv 6)) ma_nil))))))))) (mg_name (pg_name (i := 9) sc__law_lex.nd rfl (.inl rfl)) rfl))
  (ms_cons (ms_if (PW.pt (mw_or (PW.pt (mw_and (mt_eq hr (on_ (pv 6)) (ov (mv_strS ks34))) (mw_and1 (mt_gt (ov (mv_blt call_len ok_len (by rfl) B.z_len (by decide +kernel) (mh_cons (on_ (pv 8)) mh_nil))) (ov mv_int))))) (mw_or1 (mt_val (mv_tk (pv 9)))))) (ms_one (ms_drop (mv_append (pv 2) (ma_cons (mv_tup (ma_cons (mv_sh (pv 4)) (ma_cons (mv_sh (pv 5)) (ma_cons mv_int (ma_cons (mv_strS ks34) ma_nil))))) ma_nil)))) ms_nil)
  (ms_cons (ms_drop (mv_append (pv 1) (ma_cons (mv_tup (ma_cons (mv_tk (pv 8)) (ma_cons (mv_tup (ma_cons (mv_sh (pv 4)) (ma_cons (mv_sh (pv 5)) ma_nil))) ma_nil))) ma_nil)))
  (ms_one (ms_par (ps_par rfl sc__law_lex.nd rfl rfl (by decide) rfl rfl (ma_cons (mv_sh (pv 7)) (ma_cons (mv_sub (ov (mv_add (on_ (pv 5)) (on_ (pv 7)))) (on_ (pv 3))) ma_nil)) rfl) rfl rfl)))))))))))))
  (ms_one (ms_ret (mv_tup (ma_cons (mv_tk (pv 1)) (ma_cons (mv_tk (pv 2)) ma_nil)))))))
theorem cal__law_lex (B : Facts P w K mg) (base : Heap) : Cal P w K mg base 2 "_law_lex" s__law_lex ["text"] m__law_lex := let ⟨f, fd, h, F⟩ := B.f__law_lex; ⟨f, fd, ok__law_lex B F base, h, F⟩
abbrev sl__law_place_at : List Str := ["text", "at"]
theorem ok__law_place_at (B : Facts P w K mg) {f : Addr} {fd : FuncData} (Fn : Fun K "_law_place_at" "_law_place_at" s__law_place_at f fd) (base : Heap) : FnG P w K mg base 1 f fd ["text", "at"] m__law_place_at := ok_def (pin := pinL [0, 1]) Fn sc__law_place_at rfl (pins_ok rfl) fun cdv A outer s H hr gd =>
  (ms_one (ms_ret (mv_tup (ma_cons (mv_add (ov (mv_meth ok_count (.inl rfl) PySem.F.plainAttrs_str PySem.F.slot_str_count PySem.F.type_str_count mt_count (ov (mv_sl (on_ (pv 0)) mp_none (mp_some (on_ (pv 1))))) (mh_cons (ov (mv_strS ks28)) mh_nil))) (ov mv_int)) (ma_cons (mv_sub (on_ (pv 1)) (ov (mv_meth ok_rfind (.inl rfl) PySem.F.plainAttrs_str PySem.F.slot_str_rfind PySem.F.type_str_rfind mt_rfind (ov (mv_sl (on_ (pv 0)) mp_none (mp_some (on_ (pv 1))))) (mh_cons (ov (mv_strS ks28)) mh_nil)))) ma_nil)))))
theorem cal__law_place_at (B : Facts P w K mg) (base : Heap) : Cal P w K mg base 1 "_law_place_at" s__law_place_at ["text", "at"] m__law_place_at := let ⟨f, fd, h, F⟩ := B.f__law_place_at; ⟨f, fd, ok__law_place_at B F base, h, F⟩
abbrev sl__law_lexed : List Str := ["text", "found", "faults", "first", "one"]
theorem ok__law_lexed (B : Facts P w K mg) {f : Addr} {fd : FuncData} (Fn : Fun K "_law_lexed" "_law_lexed" s__law_lexed f fd) (base : Heap) : FnG P w K mg base 3 f fd ["text"] m__law_lexed := ok_def (pin := pinL [0]) Fn sc__law_lexed rfl (pins_ok rfl) fun cdv A outer s H hr gd =>
  (ms_cons (ms_asg (mv_c (cal__law_lex B base) bd__law_lex hr (by decide) gd (by rfl) (mh_cons (on_ (pv 0)) mh_nil)) (mg_tup rfl (mgs_cons (mg_name (pg_name (i := 1) sc__law_lexed.nd rfl (.inl rfl)) rfl) (mgs_cons (mg_name (pg_name (i := 2) sc__law_lexed.nd rfl (.inl rfl)) rfl) mgs_nil))))
  (ms_cons (ms_if (mt_gt (ov (mv_blt call_len ok_len (by rfl) B.z_len (by decide +kernel) (mh_cons (on_ (pv 0)) mh_nil))) (ov mv_int)) (ms_one (ms_drop (mv_append (pv 2) (ma_cons (mv_add (ov (mv_c (cal__law_place_at B base) bd__law_place_at hr (by decide) gd (by rfl) (mh_cons (on_ (pv 0)) (mh_cons (ov mv_int) mh_nil)))) (ov (mv_tup (ma_cons mv_int (ma_cons (mv_strS ks38) ma_nil))))) ma_nil)))) ms_nil)
  (ms_cons (ms_if (mt_eq hr (on_ (pv 2)) (ov (mv_lst ma_nil))) (ms_one (ms_ret (mv_tup (ma_cons (mv_tk (pv 1)) (ma_cons mv_non ma_nil))))) ms_nil)
  (ms_cons (ms_asg (mv_ixAny (mv_blt cr_sortT ok_sortT (by rfl) B.z_sorted (by decide +kernel) (mh_cons (on_ (pv 2)) mh_nil)) (ov mv_int)) (mg_name (pg_name (i := 3) sc__law_lexed.nd rfl (.inr rfl)) rfl))
  (ms_one (ms_ret (mv_tup (ma_cons (mv_lc (own := [("one", 4)]) (g := cg1__law_lexed) (t := ct1__law_lexed) (e := ce1__law_lexed) rfl sc__law_lexed.nd (mi_any (on_ (pv 1))) (blkOk_by (own := [("one", 4)]) (N := sl__law_lexed) (sc := defScope s__law_lexed) (by decide +kernel)) (fun _ _ _ _ _ => (mg_name (pg_name (i := 4) sc__law_lexed.nd rfl (.inl rfl)) rfl)) (fun _ _ _ _ _ => (mpts_one (mt_lt hr (ov (mv_ixD (on_ (pv 4)) (ov mv_int))) (ov (mv_sl (on_ (pv 3)) mp_none (mp_some (ov mv_int))))))) (fun _ _ _ _ _ => (mv_tk (pv 4)))) (ma_cons (mv_add (ov (mv_tup (ma_cons (mv_ixD (on_ (pv 3)) (ov mv_int)) ma_nil))) (ov (mv_sl (on_ (pv 3)) mp_none (mp_some (ov mv_int))))) ma_nil)))))))))
theorem cal__law_lexed (B : Facts P w K mg) (base : Heap) : Cal P w K mg base 3 "_law_lexed" s__law_lexed ["text"] m__law_lexed := let ⟨f, fd, h, F⟩ := B.f__law_lexed; ⟨f, fd, ok__law_lexed B F base, h, F⟩
abbrev sl_check_text : List Str := ["text"]
theorem ok_check_text (B : Facts P w K mg) {f : Addr} {fd : FuncData} (Fn : Fun K "check_text" "check_text" s_check_text f fd) (base : Heap) : FnG P w K mg base 1 f fd ["text"] m_check_text := ok_def (pin := pinL [0]) Fn sc_check_text rfl (pins_ok rfl) fun cdv A outer s H hr gd =>
  (ms_one (ms_if (mt_not (mt_val (mv_isi isOk_str (by rfl) B.z_isinstance (by rfl) B.z_str (by decide +kernel) (on_ (pv 0))))) (ms_one ms_never1) ms_nil))
theorem cal_check_text (B : Facts P w K mg) (base : Heap) : Cal P w K mg base 1 "check_text" s_check_text ["text"] m_check_text := let ⟨f, fd, h, F⟩ := B.f_check_text; ⟨f, fd, ok_check_text B F base, h, F⟩
abbrev sl_signs_of : List Str := ["sign"]
theorem ok_signs_of (B : Facts P w K mg) {f : Addr} {fd : FuncData} (Fn : Fun K "signs_of" "signs_of" s_signs_of f fd) (base : Heap) : FnG P w K mg base 1 f fd ["sign"] m_signs_of := ok_def (pin := pinL [0]) Fn sc_signs_of rfl (pins_ok rfl) fun cdv A outer s H hr gd =>
  (ms_cons (ms_if (mt_in hr (on_ (pv 0)) (ov (mv_gd B.g_LETTERS (by rfl)))) (ms_one (ms_ret (mv_gd B.g_LETTERS (by rfl)))) ms_nil)
  (ms_one (ms_ret (mv_if (mt_in hr (on_ (pv 0)) (ov (mv_gd B.g_DIGITS (by rfl)))) (mv_gd B.g_DIGITS (by rfl)) (mv_strS ks29)))))
theorem cal_signs_of (B : Facts P w K mg) (base : Heap) : Cal P w K mg base 1 "signs_of" s_signs_of ["sign"] m_signs_of := let ⟨f, fd, h, F⟩ := B.f_signs_of; ⟨f, fd, ok_signs_of B F base, h, F⟩
abbrev sl_wrong_with : List Str := ["token", "is_behind"]
theorem ok_wrong_with (B : Facts P w K mg) {f : Addr} {fd : FuncData} (Fn : Fun K "wrong_with" "wrong_with" s_wrong_with f fd) (base : Heap) : FnG P w K mg base 2 f fd ["token", "is_behind"] m_wrong_with := ok_def (pin := pinL [0, 1]) Fn sc_wrong_with rfl (pins_ok rfl) fun cdv A outer s H hr gd =>
  (ms_cons (ms_if (PW.pt (mw_and (mt_eq hr (ov (mv_c (cal_signs_of B base) bd_signs_of hr (by decide) gd (by rfl) (mh_cons (ov (mv_ixD (on_ (pv 0)) (ov mv_int))) mh_nil))) (ov (mv_strS ks29))) (mw_and1 (mt_ne hr (on_ (pv 0)) (ov (mv_gd B.g_SIGN (by rfl))))))) (ms_one (ms_ret (mv_strS ks36))) ms_nil)
  (ms_cons (ms_if (PW.pt (mw_and (mt_in hr (ov (mv_ixD (on_ (pv 0)) (ov mv_int))) (ov (mv_gd B.g_DIGITS (by rfl)))) (mw_and1 (PW.pt (mw_or (mt_gt (ov (mv_blt call_len ok_len (by rfl) B.z_len (by decide +kernel) (mh_cons (on_ (pv 0)) mh_nil))) (ov (mv_gd B.g_MOST_DIGITS (by rfl)))) (mw_or1 (PW.pt (mw_and (mt_gt (ov (mv_blt call_len ok_len (by rfl) B.z_len (by decide +kernel) (mh_cons (on_ (pv 0)) mh_nil))) (ov mv_int)) (mw_and1 (mt_eq hr (ov (mv_ixD (on_ (pv 0)) (ov mv_int))) (ov (mv_strS ks16)))))))))))) (ms_one (ms_ret (mv_strS ks35))) ms_nil)
  (ms_cons (ms_if (PW.pt (mw_or (PW.pt (mw_and (mt_in hr (ov (mv_ixD (on_ (pv 0)) (ov mv_int))) (ov (mv_gd B.g_LETTERS (by rfl)))) (mw_and1 (mt_gt (ov (mv_blt call_len ok_len (by rfl) B.z_len (by decide +kernel) (mh_cons (on_ (pv 0)) mh_nil))) (ov (mv_gd B.g_MOST_LETTERS (by rfl))))))) (mw_or1 (PW.pt (mw_and (mt_val (mv_sh (pv 1))) (mw_and1 (mt_ne hr (on_ (pv 0)) (ov (mv_gd B.g_SIGN (by rfl)))))))))) (ms_one (ms_ret (mv_strS ks34))) ms_nil)
  (ms_one (ms_ret mv_non)))))
theorem cal_wrong_with (B : Facts P w K mg) (base : Heap) : Cal P w K mg base 2 "wrong_with" s_wrong_with ["token", "is_behind"] m_wrong_with := let ⟨f, fd, h, F⟩ := B.f_wrong_with; ⟨f, fd, ok_wrong_with B F base, h, F⟩
abbrev sl_run_at : List Str := ["text", "at", "some", "end"]
theorem ok_run_at (B : Facts P w K mg) {f : Addr} {fd : FuncData} (Fn : Fun K "run_at" "run_at" s_run_at f fd) (base : Heap) : FnG P w K mg base 2 f fd ["text", "at"] m_run_at := ok_def (pin := pinL [0, 1]) Fn sc_run_at rfl (pins_ok rfl) fun cdv A outer s H hr gd =>
  (ms_cons (ms_par (ps_par rfl sc_run_at.nd rfl rfl (by decide) rfl rfl (ma_cons (mv_c (cal_signs_of B base) bd_signs_of hr (by decide) gd (by rfl) (mh_cons (ov (mv_ixD (on_ (pv 0)) (on_ (pv 1)))) mh_nil)) (ma_cons (mv_add (on_ (pv 1)) (ov mv_int)) ma_nil)) rfl) rfl rfl)
  (ms_cons (ms_k1 (ms_while (t := wc1_run_at) (b := wb1_run_at) PassesOwn.never (PW.pt (mw_and (mt_ne hr (on_ (pv 2)) (ov (mv_strS ks29))) (mw_and (mt_lt hr (on_ (pv 3)) (ov (mv_blt call_len ok_len (by rfl) B.z_len (by decide +kernel) (mh_cons (on_ (pv 0)) mh_nil)))) (mw_and1 (mt_in hr (ov (mv_ixD (on_ (pv 0)) (on_ (pv 3)))) (on_ (pv 2))))))) (ms_one (ms_asg (mv_add (on_ (pv 3)) (ov mv_int)) (mg_name (pg_name (i := 3) sc_run_at.nd rfl (.inl rfl)) rfl)))))
  (ms_one (ms_ret (mv_sl (on_ (pv 0)) (mp_some (on_ (pv 1))) (mp_some (on_ (pv 3))))))))
theorem cal_run_at (B : Facts P w K mg) (base : Heap) : Cal P w K mg base 2 "run_at" s_run_at ["text", "at"] m_run_at := let ⟨f, fd, h, F⟩ := B.f_run_at; ⟨f, fd, ok_run_at B F base, h, F⟩
abbrev sl_place_behind : List Str := ["text"]
theorem ok_place_behind (B : Facts P w K mg) {f : Addr} {fd : FuncData} (Fn : Fun K "place_behind" "place_behind" s_place_behind f fd) (base : Heap) : FnG P w K mg base 1 f fd ["text"] m_place_behind := ok_def (pin := pinL [0]) Fn sc_place_behind rfl (pins_ok rfl) fun cdv A outer s H hr gd =>
  (ms_one (ms_ret (mv_tup (ma_cons (mv_add (ov (mv_meth ok_count (.inl rfl) PySem.F.plainAttrs_str PySem.F.slot_str_count PySem.F.type_str_count mt_count (on_ (pv 0)) (mh_cons (ov (mv_strS ks28)) mh_nil))) (ov mv_int)) (ma_cons (mv_sub (ov (mv_blt call_len ok_len (by rfl) B.z_len (by decide +kernel) (mh_cons (on_ (pv 0)) mh_nil))) (ov (mv_meth ok_rfind (.inl rfl) PySem.F.plainAttrs_str PySem.F.slot_str_rfind PySem.F.type_str_rfind mt_rfind (on_ (pv 0)) (mh_cons (ov (mv_strS ks28)) mh_nil)))) ma_nil)))))
theorem cal_place_behind (B : Facts P w K mg) (base : Heap) : Cal P w K mg base 1 "place_behind" s_place_behind ["text"] m_place_behind := let ⟨f, fd, h, F⟩ := B.f_place_behind; ⟨f, fd, ok_place_behind B F base, h, F⟩
abbrev sl_scanned : List Str := ["text", "found", "at", "is_behind", "token", "place", "word"]
theorem ok_scanned (B : Facts P w K mg) {f : Addr} {fd : FuncData} (Fn : Fun K "scanned" "scanned" s_scanned f fd) (base : Heap) : FnG P w K mg base 3 f fd ["text"] m_scanned := ok_def (pin := pinL [0]) Fn sc_scanned rfl (pins_ok rfl) fun cdv A outer s H hr gd =>
  (ms_cons (ms_par3 (ps_par3 rfl sc_scanned.nd rfl rfl rfl (by decide) (by decide) (by decide) rfl rfl rfl (ma_cons (mv_lst ma_nil) (ma_cons mv_int (ma_cons mv_bl ma_nil))) rfl) rfl rfl rfl)
  (ms_cons (ms_k1 (ms_while (t := wc1_scanned) (b := wb1_scanned) PassesOwn.never (mt_lt hr (on_ (pv 2)) (ov (mv_blt call_len ok_len (by rfl) B.z_len (by decide +kernel) (mh_cons (on_ (pv 0)) mh_nil)))) (ms_cons (ms_if (mt_in hr (ov (mv_ixD (on_ (pv 0)) (on_ (pv 2)))) (ov (mv_gd B.g_BLANKS (by rfl)))) (ms_cons (ms_par (ps_par rfl sc_scanned.nd rfl rfl (by decide) rfl rfl (ma_cons (mv_add (on_ (pv 2)) (ov mv_int)) (ma_cons mv_bl ma_nil)) rfl) rfl rfl)
  (ms_one ms_cont)) ms_nil)
  (ms_cons (ms_par (ps_par rfl sc_scanned.nd rfl rfl (by decide) rfl rfl (ma_cons (mv_c (cal_run_at B base) bd_run_at hr (by decide) gd (by rfl) (mh_cons (on_ (pv 0)) (mh_cons (on_ (pv 2)) mh_nil))) (ma_cons (mv_c (cal_place_behind B base) bd_place_behind hr (by decide) gd (by rfl) (mh_cons (ov (mv_sl (on_ (pv 0)) mp_none (mp_some (on_ (pv 2))))) mh_nil)) ma_nil)) rfl) rfl rfl)
  (ms_cons (ms_asg (mv_c (cal_wrong_with B base) bd_wrong_with hr (by decide) gd (by rfl) (mh_cons (on_ (pv 4)) (mh_cons (on_ (pv 3)) mh_nil))) (mg_name (pg_name (i := 6) sc_scanned.nd rfl (.inl rfl)) rfl))
  (ms_cons (ms_if (mt_notN (on_ (pv 6)) (ov mv_non)) (ms_one (ms_ret (mv_tup (ma_cons (mv_tk (pv 1)) (ma_cons (mv_add (ov (mv_tup (ma_cons (mv_tk (pv 6)) ma_nil))) (on_ (pv 5))) ma_nil))))) ms_nil)
  (ms_cons (ms_drop (mv_append (pv 1) (ma_cons (mv_tup (ma_cons (mv_sh (pv 4)) (ma_cons (mv_tk (pv 5)) ma_nil))) ma_nil)))
  (ms_one (ms_par (ps_par rfl sc_scanned.nd rfl rfl (by decide) rfl rfl (ma_cons (mv_add (on_ (pv 2)) (ov (mv_blt call_len ok_len (by rfl) B.z_len (by decide +kernel) (mh_cons (on_ (pv 4)) mh_nil)))) (ma_cons (mv_ne hr (on_ (pv 4)) (ov (mv_gd B.g_SIGN (by rfl)))) ma_nil)) rfl) rfl rfl)))))))))
  (ms_one (ms_ret (mv_tup (ma_cons (mv_tk (pv 1)) (ma_cons mv_non ma_nil)))))))
theorem cal_scanned (B : Facts P w K mg) (base : Heap) : Cal P w K mg base 3 "scanned" s_scanned ["text"] m_scanned := let ⟨f, fd, h, F⟩ := B.f_scanned; ⟨f, fd, ok_scanned B F base, h, F⟩
abbrev sl_looked_over : List Str := ["text", "found", "fault", "place", "one"]
theorem ok_looked_over (B : Facts P w K mg) {f : Addr} {fd : FuncData} (Fn : Fun K "looked_over" "looked_over" s_looked_over f fd) (base : Heap) : FnG P w K mg base 4 f fd ["text"] m_looked_over := ok_def (pin := pinL [0]) Fn sc_looked_over rfl (pins_ok rfl) fun cdv A outer s H hr gd =>
  (ms_cons (ms_asg (mv_c (cal_scanned B base) bd_scanned hr (by decide) gd (by rfl) (mh_cons (on_ (pv 0)) mh_nil)) (mg_tup rfl (mgs_cons (mg_name (pg_name (i := 1) sc_looked_over.nd rfl (.inl rfl)) rfl) (mgs_cons (mg_name (pg_name (i := 2) sc_looked_over.nd rfl (.inl rfl)) rfl) mgs_nil))))
  (ms_cons (ms_if (mt_gt (ov (mv_blt call_len ok_len (by rfl) B.z_len (by decide +kernel) (mh_cons (on_ (pv 0)) mh_nil))) (ov (mv_gd B.g_MOST_SIGNS (by rfl)))) (ms_cons (ms_asg (mv_c (cal_place_behind B base) bd_place_behind hr (by decide) gd (by rfl) (mh_cons (ov (mv_sl (on_ (pv 0)) mp_none (mp_some (ov (mv_gd B.g_MOST_SIGNS (by rfl)))))) mh_nil)) (mg_name (pg_name (i := 3) sc_looked_over.nd rfl (.inr rfl)) rfl))
  (ms_one (ms_if (PW.pt (mw_or (mt_isN (on_ (pv 2)) (ov mv_non)) (mw_or1 (mt_lt hr (on_ (pv 3)) (ov (mv_sl (on_ (pv 2)) (mp_some (ov mv_int)) mp_none)))))) (ms_one (ms_ret (mv_tup (ma_cons (mv_lc (own := [("one", 4)]) (g := cg1_looked_over) (t := ct1_looked_over) (e := ce1_looked_over) rfl sc_looked_over.nd (mi_any (on_ (pv 1))) (blkOk_by (own := [("one", 4)]) (N := sl_looked_over) (sc := defScope s_looked_over) (by decide +kernel)) (fun _ _ _ _ _ => (mg_name (pg_name (i := 4) sc_looked_over.nd rfl (.inl rfl)) rfl)) (fun _ _ _ _ _ => (mpts_one (mt_lt hr (ov (mv_ixD (on_ (pv 4)) (ov mv_int))) (on_ (pv 3))))) (fun _ _ _ _ _ => (mv_tk (pv 4)))) (ma_cons (mv_add (ov (mv_tup (ma_cons (mv_strS ks38) ma_nil))) (on_ (pv 3))) ma_nil))))) ms_nil))) ms_nil)
  (ms_one (ms_ret (mv_tup (ma_cons (mv_tk (pv 1)) (ma_cons (mv_tk (pv 2)) ma_nil)))))))
theorem cal_looked_over (B : Facts P w K mg) (base : Heap) : Cal P w K mg base 4 "looked_over" s_looked_over ["text"] m_looked_over := let ⟨f, fd, h, F⟩ := B.f_looked_over; ⟨f, fd, ok_looked_over B F base, h, F⟩
abbrev sl_tokens : List Str := ["text"]
theorem ok_tokens (B : Facts P w K mg) {f : Addr} {fd : FuncData} (Fn : Fun K "tokens" "tokens" s_tokens f fd) (base : Heap) : FnG P w K mg base 5 f fd ["text"] m_tokens := ok_def (pin := pinL [0]) Fn sc_tokens rfl (pins_ok rfl) fun cdv A outer s H hr gd =>
  (ms_cons (ms_drop (mv_c (cal_check_text B base) bd_check_text hr (by decide) gd (by rfl) (mh_cons (on_ (pv 0)) mh_nil)))
  (ms_one (ms_ret (mv_ixAny (mv_c (cal_looked_over B base) bd_looked_over hr (by decide) gd (by rfl) (mh_cons (on_ (pv 0)) mh_nil)) (ov mv_int)))))
theorem cal_tokens (B : Facts P w K mg) (base : Heap) : Cal P w K mg base 5 "tokens" s_tokens ["text"] m_tokens := let ⟨f, fd, h, F⟩ := B.f_tokens; ⟨f, fd, ok_tokens B F base, h, F⟩
abbrev sl_token_fault : List Str := ["text"]
theorem ok_token_fault (B : Facts P w K mg) {f : Addr} {fd : FuncData} (Fn : Fun K "token_fault" "token_fault" s_token_fault f fd) (base : Heap) : FnG P w K mg base 5 f fd ["text"] m_token_fault := ok_def (pin := pinL [0]) Fn sc_token_fault rfl (pins_ok rfl) fun cdv A outer s H hr gd =>
  (ms_cons (ms_drop (mv_c (cal_check_text B base) bd_check_text hr (by decide) gd (by rfl) (mh_cons (on_ (pv 0)) mh_nil)))
  (ms_one (ms_ret (mv_ixAny (mv_c (cal_looked_over B base) bd_looked_over hr (by decide) gd (by rfl) (mh_cons (on_ (pv 0)) mh_nil)) (ov mv_int)))))
theorem cal_token_fault (B : Facts P w K mg) (base : Heap) : Cal P w K mg base 5 "token_fault" s_token_fault ["text"] m_token_fault := let ⟨f, fd, h, F⟩ := B.f_token_fault; ⟨f, fd, ok_token_fault B F base, h, F⟩
abbrev sl_fault_by : List Str := ["text", "fault", "found", "pile", "place", "is_much"]
theorem ok_fault_by (B : Facts P w K mg) {f : Addr} {fd : FuncData} (Fn : Fun K "fault_by" "fault_by" s_fault_by f fd) (base : Heap) : FnG P w K mg base 5 f fd ["text"] m_fault_by := ok_def (pin := pinL [0]) Fn sc_fault_by rfl (pins_ok rfl) fun cdv A outer s H hr gd =>
  (ms_cons (ms_asg (mv_ixAny (mv_c (cal_looked_over B base) bd_looked_over hr (by decide) gd (by rfl) (mh_cons (on_ (pv 0)) mh_nil)) (ov mv_int)) (mg_name (pg_name (i := 1) sc_fault_by.nd rfl (.inl rfl)) rfl))
  (ms_cons (ms_if (mt_notN (on_ (pv 1)) (ov mv_non)) (ms_one (ms_ret (mv_tk (pv 1)))) ms_nil)
  ms_never))
theorem cal_fault_by (B : Facts P w K mg) (base : Heap) : Cal P w K mg base 5 "fault_by" s_fault_by ["text"] m_fault_by := let ⟨f, fd, h, F⟩ := B.f_fault_by; ⟨f, fd, ok_fault_by B F base, h, F⟩
abbrev sl_letter_fault : List Str := ["text"]
theorem ok_letter_fault (B : Facts P w K mg) {f : Addr} {fd : FuncData} (Fn : Fun K "letter_fault" "letter_fault" s_letter_fault f fd) (base : Heap) : FnG P w K mg base 6 f fd ["text"] m_letter_fault := ok_def (pin := pinL [0]) Fn sc_letter_fault rfl (pins_ok rfl) fun cdv A outer s H hr gd =>
  (ms_cons (ms_drop (mv_c (cal_check_text B base) bd_check_text hr (by decide) gd (by rfl) (mh_cons (on_ (pv 0)) mh_nil)))
  (ms_one (ms_ret (mv_c (cal_fault_by B base) bd_fault_by hr (by decide) gd (by rfl) (mh_cons (on_ (pv 0)) mh_nil)))))
theorem cal_letter_fault (B : Facts P w K mg) (base : Heap) : Cal P w K mg base 6 "letter_fault" s_letter_fault ["text"] m_letter_fault := let ⟨f, fd, h, F⟩ := B.f_letter_fault; ⟨f, fd, ok_letter_fault B F base, h, F⟩
abbrev sl_law : List Str := ["script", "pot", "late", "step", "text", "found", "fault", "told", "more"]
theorem ok_law (B : Facts P w K mg) {f : Addr} {fd : FuncData} (Fn : Fun K "law" "law" s_law f fd) (base : Heap) : FnG P w K mg base 7 f fd ["script"] m_law := ok_def (pin := pinL [0]) Fn sc_law rfl (pins_ok rfl) fun cdv A outer s H hr gd =>
  (ms_cons (ms_par (ps_par rfl sc_law.nd rfl rfl (by decide) rfl rfl (ma_cons (mv_c (cal__law_pot B base) bd__law_pot hr (by decide) gd (by rfl) (mh_cons (on_ (pv 0)) (mh_cons (ov mv_int) mh_nil))) (ma_cons (mv_c (cal__law_pot B base) bd__law_pot hr (by decide) gd (by rfl) (mh_cons (on_ (pv 0)) (mh_cons (ov mv_int) mh_nil))) ma_nil)) rfl) rfl rfl)
  (ms_cons (ms_k1 (ms_for (g := wg1_law) (b := wb1_law) (pin' := pinU [] (pinL [0])) PassesOwn.never rfl (mi_rng1 (by rfl) B.z_range (mh_cons (ov mv_int) mh_nil)) (mg_name (pg_name (i := 3) sc_law.nd rfl (.inl rfl)) rfl) (ms_cons (ms_asg (mv_c (cal__law_text B base) bd__law_text hr (by decide) gd (by rfl) (mh_cons (on_ (pv 1)) (mh_cons (on_ (pv 2)) mh_nil))) (mg_name (pg_name (i := 4) sc_law.nd rfl (.inl rfl)) rfl))
  (ms_cons (ms_asg (mv_c (cal__law_lexed B base) bd__law_lexed hr (by decide) gd (by rfl) (mh_cons (on_ (pv 4)) mh_nil)) (mg_tup rfl (mgs_cons (mg_name (pg_name (i := 5) sc_law.nd rfl (.inl rfl)) rfl) (mgs_cons (mg_name (pg_name (i := 6) sc_law.nd rfl (.inl rfl)) rfl) mgs_nil))))
  (ms_cons (ms_asg (mv_c (cal_tokens B base) bd_tokens hr (by decide) gd (by rfl) (mh_cons (on_ (pv 4)) mh_nil)) (mg_name (pg_name (i := 7) sc_law.nd rfl (.inl rfl)) rfl))
  (ms_cons (ms_if (mt_ne hr (ov (mv_reprL hr gd (by rfl) B.z_repr (mh_cons (on_ (pv 7)) (mh_cons (ov (mv_ck0 (cal_tokens B base) kb_tokens_0_text hr (by decide) gd (by rfl) (mk_cons (on_ (pv 4)) mk_nil))) (mh_cons (ov (mv_c (cal_token_fault B base) bd_token_fault hr (by decide) gd (by rfl) (mh_cons (on_ (pv 4)) mh_nil))) (mh_cons (ov (mv_ck0 (cal_token_fault B base) kb_token_fault_0_text hr (by decide) gd (by rfl) (mk_cons (on_ (pv 4)) mk_nil))) mh_nil)))))) (ov (mv_reprL hr gd (by rfl) B.z_repr (mh_cons (on_ (pv 5)) (mh_cons (on_ (pv 5)) (mh_cons (on_ (pv 6)) (mh_cons (on_ (pv 6)) mh_nil))))))) (ms_one (ms_ret mv_bl)) ms_nil)
  (ms_cons (ms_drop (mv_append (pv 7) (ma_cons mv_non ma_nil)))
  (ms_cons (ms_if (PW.pt (mw_or (mt_ne hr (ov (mv_blt (call_repr hr gd) ok_repr (by rfl) B.z_repr (by decide +kernel) (mh_cons (ov (mv_c (cal_tokens B base) bd_tokens hr (by decide) gd (by rfl) (mh_cons (on_ (pv 4)) mh_nil))) mh_nil))) (ov (mv_blt (call_repr hr gd) ok_repr (by rfl) B.z_repr (by decide +kernel) (mh_cons (on_ (pv 5)) mh_nil)))) (mw_or1 (PW.pt (mw_and (mt_notN (on_ (pv 6)) (ov mv_non)) (mw_and1 (mt_ne hr (ov (mv_reprL hr gd (by rfl) B.z_repr (mh_cons (ov (mv_c (cal_letter_fault B base) bd_letter_fault hr (by decide) gd (by rfl) (mh_cons (on_ (pv 4)) mh_nil))) (mh_cons (ov (mv_ck0 (cal_letter_fault B base) kb_letter_fault_0_text hr (by decide) gd (by rfl) (mk_cons (on_ (pv 4)) mk_nil))) mh_nil)))) (ov (mv_reprL hr gd (by rfl) B.z_repr (mh_cons (on_ (pv 6)) (mh_cons (on_ (pv 6)) mh_nil))))))))))) (ms_one (ms_ret mv_bl)) ms_nil)
  (ms_cons (ms_asg (mv_add (on_ (pv 4)) (ov (mv_c (cal__law_pick B base) bd__law_pick hr (by decide) gd (by rfl) (mh_cons (on_ (pv 2)) (mh_cons (ov (mv_lst (ma_cons (mv_strS ks44) (ma_cons (mv_strS ks43) (ma_cons (mv_strS ks42) (ma_cons (mv_strS ks41) ma_nil)))))) mh_nil))))) (mg_name (pg_name (i := 8) sc_law.nd rfl (.inl rfl)) rfl))
  (ms_one (ms_if (PW.pt (mw_and (mt_notN (on_ (pv 6)) (ov mv_non)) (mw_and (mt_lt hr (ov (mv_blt call_len ok_len (by rfl) B.z_len (by decide +kernel) (mh_cons (on_ (pv 8)) mh_nil))) (ov mv_int)) (mw_and1 (mt_ne hr (ov (mv_reprL hr gd (by rfl) B.z_repr (mh_cons (ov (mv_c (cal_tokens B base) bd_tokens hr (by decide) gd (by rfl) (mh_cons (on_ (pv 8)) mh_nil))) (mh_cons (ov (mv_c (cal_token_fault B base) bd_token_fault hr (by decide) gd (by rfl) (mh_cons (on_ (pv 8)) mh_nil))) mh_nil)))) (ov (mv_reprL hr gd (by rfl) B.z_repr (mh_cons (on_ (pv 5)) (mh_cons (on_ (pv 6)) mh_nil))))))))) (ms_one (ms_ret mv_bl)) ms_nil))))))))) pinU_le (hs_val hs_nil)))
  (ms_one (ms_ret mv_bl))))
theorem cal_law (B : Facts P w K mg) (base : Heap) : Cal P w K mg base 7 "law" s_law ["script"] m_law := let ⟨f, fd, h, F⟩ := B.f_law; ⟨f, fd, ok_law B F base, h, F⟩
end
theorem facts_mk {P : Program} {w : World} {K : PySem.W.Frag} {h : Heap} {mg : Str → Option Value} (X : K.In h) (G : h.Ns mainGlobals mg)
    {f0 : Addr} {od0 an0 : Option Addr} {sl0 : Array (Option Value)} {oc0 kV0 dc0 pm0 cd0 ct0 : Value} (a0 : PySem.W.nsIn K mainGlobals "_law_pot" = some (some (.ref f0))) (l0 : K.lookup f0 = some ⟨oc0, od0, .func (PySem.W.fnOf "_law_pot" "_law_pot" (defArgs s__law_pot) (defBody s__law_pot) (defScope s__law_pot) .none kV0 dc0 pm0 an0 cd0 ct0), sl0⟩) (c0 : PySem.W.codeIn K cd0 "_law_pot" = true) (k0 : PySem.W.keepIn K (.ref f0) = true)
    {f1 : Addr} {od1 an1 : Option Addr} {sl1 : Array (Option Value)} {oc1 kV1 dc1 pm1 cd1 ct1 : Value} (a1 : PySem.W.nsIn K mainGlobals "_law_draw" = some (some (.ref f1))) (l1 : K.lookup f1 = some ⟨oc1, od1, .func (PySem.W.fnOf "_law_draw" "_law_draw" (defArgs s__law_draw) (defBody s__law_draw) (defScope s__law_draw) .none kV1 dc1 pm1 an1 cd1 ct1), sl1⟩) (c1 : PySem.W.codeIn K cd1 "_law_draw" = true) (k1 : PySem.W.keepIn K (.ref f1) = true)
    {f2 : Addr} {od2 an2 : Option Addr} {sl2 : Array (Option Value)} {oc2 kV2 dc2 pm2 cd2 ct2 : Value} (a2 : PySem.W.nsIn K mainGlobals "_law_pick" = some (some (.ref f2))) (l2 : K.lookup f2 = some ⟨oc2, od2, .func (PySem.W.fnOf "_law_pick" "_law_pick" (defArgs s__law_pick) (defBody s__law_pick) (defScope s__law_pick) .none kV2 dc2 pm2 an2 cd2 ct2), sl2⟩) (c2 : PySem.W.codeIn K cd2 "_law_pick" = true) (k2 : PySem.W.keepIn K (.ref f2) = true)
    {f3 : Addr} {od3 an3 : Option Addr} {sl3 : Array (Option Value)} {oc3 kV3 dc3 pm3 cd3 ct3 : Value} (a3 : PySem.W.nsIn K mainGlobals "_law_piece" = some (some (.ref f3))) (l3 : K.lookup f3 = some ⟨oc3, od3, .func (PySem.W.fnOf "_law_piece" "_law_piece" (defArgs s__law_piece) (defBody s__law_piece) (defScope s__law_piece) .none kV3 dc3 pm3 an3 cd3 ct3), sl3⟩) (c3 : PySem.W.codeIn K cd3 "_law_piece" = true) (k3 : PySem.W.keepIn K (.ref f3) = true)
    {f4 : Addr} {od4 an4 : Option Addr} {sl4 : Array (Option Value)} {oc4 kV4 dc4 pm4 cd4 ct4 : Value} (a4 : PySem.W.nsIn K mainGlobals "_law_text" = some (some (.ref f4))) (l4 : K.lookup f4 = some ⟨oc4, od4, .func (PySem.W.fnOf "_law_text" "_law_text" (defArgs s__law_text) (defBody s__law_text) (defScope s__law_text) .none kV4 dc4 pm4 an4 cd4 ct4), sl4⟩) (c4 : PySem.W.codeIn K cd4 "_law_text" = true) (k4 : PySem.W.keepIn K (.ref f4) = true)
    {f5 : Addr} {od5 an5 : Option Addr} {sl5 : Array (Option Value)} {oc5 kV5 dc5 pm5 cd5 ct5 : Value} (a5 : PySem.W.nsIn K mainGlobals "_law_kind_of" = some (some (.ref f5))) (l5 : K.lookup f5 = some ⟨oc5, od5, .func (PySem.W.fnOf "_law_kind_of" "_law_kind_of" (defArgs s__law_kind_of) (defBody s__law_kind_of) (defScope s__law_kind_of) .none kV5 dc5 pm5 an5 cd5 ct5), sl5⟩) (c5 : PySem.W.codeIn K cd5 "_law_kind_of" = true) (k5 : PySem.W.keepIn K (.ref f5) = true)
    {f6 : Addr} {od6 an6 : Option Addr} {sl6 : Array (Option Value)} {oc6 kV6 dc6 pm6 cd6 ct6 : Value} (a6 : PySem.W.nsIn K mainGlobals "_law_lex" = some (some (.ref f6))) (l6 : K.lookup f6 = some ⟨oc6, od6, .func (PySem.W.fnOf "_law_lex" "_law_lex" (defArgs s__law_lex) (defBody s__law_lex) (defScope s__law_lex) .none kV6 dc6 pm6 an6 cd6 ct6), sl6⟩) (c6 : PySem.W.codeIn K cd6 "_law_lex" = true) (k6 : PySem.W.keepIn K (.ref f6) = true)
    {f7 : Addr} {od7 an7 : Option Addr} {sl7 : Array (Option Value)} {oc7 kV7 dc7 pm7 cd7 ct7 : Value} (a7 : PySem.W.nsIn K mainGlobals "_law_place_at" = some (some (.ref f7))) (l7 : K.lookup f7 = some ⟨oc7, od7, .func (PySem.W.fnOf "_law_place_at" "_law_place_at" (defArgs s__law_place_at) (defBody s__law_place_at) (defScope s__law_place_at) .none kV7 dc7 pm7 an7 cd7 ct7), sl7⟩) (c7 : PySem.W.codeIn K cd7 "_law_place_at" = true) (k7 : PySem.W.keepIn K (.ref f7) = true)
    {f8 : Addr} {od8 an8 : Option Addr} {sl8 : Array (Option Value)} {oc8 kV8 dc8 pm8 cd8 ct8 : Value} (a8 : PySem.W.nsIn K mainGlobals "_law_lexed" = some (some (.ref f8))) (l8 : K.lookup f8 = some ⟨oc8, od8, .func (PySem.W.fnOf "_law_lexed" "_law_lexed" (defArgs s__law_lexed) (defBody s__law_lexed) (defScope s__law_lexed) .none kV8 dc8 pm8 an8 cd8 ct8), sl8⟩) (c8 : PySem.W.codeIn K cd8 "_law_lexed" = true) (k8 : PySem.W.keepIn K (.ref f8) = true)
    {f9 : Addr} {od9 an9 : Option Addr} {sl9 : Array (Option Value)} {oc9 kV9 dc9 pm9 cd9 ct9 : Value} (a9 : PySem.W.nsIn K mainGlobals "check_text" = some (some (.ref f9))) (l9 : K.lookup f9 = some ⟨oc9, od9, .func (PySem.W.fnOf "check_text" "check_text" (defArgs s_check_text) (defBody s_check_text) (defScope s_check_text) .none kV9 dc9 pm9 an9 cd9 ct9), sl9⟩) (c9 : PySem.W.codeIn K cd9 "check_text" = true) (k9 : PySem.W.keepIn K (.ref f9) = true)
    {f10 : Addr} {od10 an10 : Option Addr} {sl10 : Array (Option Value)} {oc10 kV10 dc10 pm10 cd10 ct10 : Value} (a10 : PySem.W.nsIn K mainGlobals "signs_of" = some (some (.ref f10))) (l10 : K.lookup f10 = some ⟨oc10, od10, .func (PySem.W.fnOf "signs_of" "signs_of" (defArgs s_signs_of) (defBody s_signs_of) (defScope s_signs_of) .none kV10 dc10 pm10 an10 cd10 ct10), sl10⟩) (c10 : PySem.W.codeIn K cd10 "signs_of" = true) (k10 : PySem.W.keepIn K (.ref f10) = true)
    {f11 : Addr} {od11 an11 : Option Addr} {sl11 : Array (Option Value)} {oc11 kV11 dc11 pm11 cd11 ct11 : Value} (a11 : PySem.W.nsIn K mainGlobals "wrong_with" = some (some (.ref f11))) (l11 : K.lookup f11 = some ⟨oc11, od11, .func (PySem.W.fnOf "wrong_with" "wrong_with" (defArgs s_wrong_with) (defBody s_wrong_with) (defScope s_wrong_with) .none kV11 dc11 pm11 an11 cd11 ct11), sl11⟩) (c11 : PySem.W.codeIn K cd11 "wrong_with" = true) (k11 : PySem.W.keepIn K (.ref f11) = true)
    {f12 : Addr} {od12 an12 : Option Addr} {sl12 : Array (Option Value)} {oc12 kV12 dc12 pm12 cd12 ct12 : Value} (a12 : PySem.W.nsIn K mainGlobals "run_at" = some (some (.ref f12))) (l12 : K.lookup f12 = some ⟨oc12, od12, .func (PySem.W.fnOf "run_at" "run_at" (defArgs s_run_at) (defBody s_run_at) (defScope s_run_at) .none kV12 dc12 pm12 an12 cd12 ct12), sl12⟩) (c12 : PySem.W.codeIn K cd12 "run_at" = true) (k12 : PySem.W.keepIn K (.ref f12) = true)
    {f13 : Addr} {od13 an13 : Option Addr} {sl13 : Array (Option Value)} {oc13 kV13 dc13 pm13 cd13 ct13 : Value} (a13 : PySem.W.nsIn K mainGlobals "place_behind" = some (some (.ref f13))) (l13 : K.lookup f13 = some ⟨oc13, od13, .func (PySem.W.fnOf "place_behind" "place_behind" (defArgs s_place_behind) (defBody s_place_behind) (defScope s_place_behind) .none kV13 dc13 pm13 an13 cd13 ct13), sl13⟩) (c13 : PySem.W.codeIn K cd13 "place_behind" = true) (k13 : PySem.W.keepIn K (.ref f13) = true)
    {f14 : Addr} {od14 an14 : Option Addr} {sl14 : Array (Option Value)} {oc14 kV14 dc14 pm14 cd14 ct14 : Value} (a14 : PySem.W.nsIn K mainGlobals "scanned" = some (some (.ref f14))) (l14 : K.lookup f14 = some ⟨oc14, od14, .func (PySem.W.fnOf "scanned" "scanned" (defArgs s_scanned) (defBody s_scanned) (defScope s_scanned) .none kV14 dc14 pm14 an14 cd14 ct14), sl14⟩) (c14 : PySem.W.codeIn K cd14 "scanned" = true) (k14 : PySem.W.keepIn K (.ref f14) = true)
    {f15 : Addr} {od15 an15 : Option Addr} {sl15 : Array (Option Value)} {oc15 kV15 dc15 pm15 cd15 ct15 : Value} (a15 : PySem.W.nsIn K mainGlobals "looked_over" = some (some (.ref f15))) (l15 : K.lookup f15 = some ⟨oc15, od15, .func (PySem.W.fnOf "looked_over" "looked_over" (defArgs s_looked_over) (defBody s_looked_over) (defScope s_looked_over) .none kV15 dc15 pm15 an15 cd15 ct15), sl15⟩) (c15 : PySem.W.codeIn K cd15 "looked_over" = true) (k15 : PySem.W.keepIn K (.ref f15) = true)
    {f16 : Addr} {od16 an16 : Option Addr} {sl16 : Array (Option Value)} {oc16 kV16 dc16 pm16 cd16 ct16 : Value} (a16 : PySem.W.nsIn K mainGlobals "tokens" = some (some (.ref f16))) (l16 : K.lookup f16 = some ⟨oc16, od16, .func (PySem.W.fnOf "tokens" "tokens" (defArgs s_tokens) (defBody s_tokens) (defScope s_tokens) .none kV16 dc16 pm16 an16 cd16 ct16), sl16⟩) (c16 : PySem.W.codeIn K cd16 "tokens" = true) (k16 : PySem.W.keepIn K (.ref f16) = true)
    {f17 : Addr} {od17 an17 : Option Addr} {sl17 : Array (Option Value)} {oc17 kV17 dc17 pm17 cd17 ct17 : Value} (a17 : PySem.W.nsIn K mainGlobals "token_fault" = some (some (.ref f17))) (l17 : K.lookup f17 = some ⟨oc17, od17, .func (PySem.W.fnOf "token_fault" "token_fault" (defArgs s_token_fault) (defBody s_token_fault) (defScope s_token_fault) .none kV17 dc17 pm17 an17 cd17 ct17), sl17⟩) (c17 : PySem.W.codeIn K cd17 "token_fault" = true) (k17 : PySem.W.keepIn K (.ref f17) = true)
    {f18 : Addr} {od18 an18 : Option Addr} {sl18 : Array (Option Value)} {oc18 kV18 dc18 pm18 cd18 ct18 : Value} (a18 : PySem.W.nsIn K mainGlobals "fault_by" = some (some (.ref f18))) (l18 : K.lookup f18 = some ⟨oc18, od18, .func (PySem.W.fnOf "fault_by" "fault_by" (defArgs s_fault_by) (defBody s_fault_by) (defScope s_fault_by) .none kV18 dc18 pm18 an18 cd18 ct18), sl18⟩) (c18 : PySem.W.codeIn K cd18 "fault_by" = true) (k18 : PySem.W.keepIn K (.ref f18) = true)
    {f19 : Addr} {od19 an19 : Option Addr} {sl19 : Array (Option Value)} {oc19 kV19 dc19 pm19 cd19 ct19 : Value} (a19 : PySem.W.nsIn K mainGlobals "letter_fault" = some (some (.ref f19))) (l19 : K.lookup f19 = some ⟨oc19, od19, .func (PySem.W.fnOf "letter_fault" "letter_fault" (defArgs s_letter_fault) (defBody s_letter_fault) (defScope s_letter_fault) .none kV19 dc19 pm19 an19 cd19 ct19), sl19⟩) (c19 : PySem.W.codeIn K cd19 "letter_fault" = true) (k19 : PySem.W.keepIn K (.ref f19) = true)
    {f20 : Addr} {od20 an20 : Option Addr} {sl20 : Array (Option Value)} {oc20 kV20 dc20 pm20 cd20 ct20 : Value} (a20 : PySem.W.nsIn K mainGlobals "law" = some (some (.ref f20))) (l20 : K.lookup f20 = some ⟨oc20, od20, .func (PySem.W.fnOf "law" "law" (defArgs s_law) (defBody s_law) (defScope s_law) .none kV20 dc20 pm20 an20 cd20 ct20), sl20⟩) (c20 : PySem.W.codeIn K cd20 "law" = true) (k20 : PySem.W.keepIn K (.ref f20) = true)
    (z0 : PySem.W.nsIn K mainGlobals "abs" = some none)
    (z1 : PySem.W.nsIn K mainGlobals "divmod" = some none)
    (z2 : PySem.W.nsIn K mainGlobals "int" = some none)
    (z3 : PySem.W.nsIn K mainGlobals "isinstance" = some none)
    (z4 : PySem.W.nsIn K mainGlobals "len" = some none)
    (z5 : PySem.W.nsIn K mainGlobals "max" = some none)
    (z6 : PySem.W.nsIn K mainGlobals "range" = some none)
    (z7 : PySem.W.nsIn K mainGlobals "repr" = some none)
    (z8 : PySem.W.nsIn K mainGlobals "sorted" = some none)
    (z9 : PySem.W.nsIn K mainGlobals "str" = some none)
    {t0 : Tok} (g0 : PySem.W.nsIn K mainGlobals "BLANKS" = some (some (.str " \n" t0)))
    {t1 : Tok} (g1 : PySem.W.nsIn K mainGlobals "DIGITS" = some (some (.str "0123456789" t1)))
    {t2 : Tok} (g2 : PySem.W.nsIn K mainGlobals "LETTERS" = some (some (.str "abcdefghijklmnopqrstuvwxyz" t2)))
    {t3 : Tok} (g3 : PySem.W.nsIn K mainGlobals "MOST_DIGITS" = some (some (.int (7) t3)))
    {t4 : Tok} (g4 : PySem.W.nsIn K mainGlobals "MOST_LETTERS" = some (some (.int (8) t4)))
    {t5 : Tok} (g5 : PySem.W.nsIn K mainGlobals "MOST_SIGNS" = some (some (.int (4000) t5)))
    {t6 : Tok} (g6 : PySem.W.nsIn K mainGlobals "SIGN" = some (some (.str ";" t6))) : Facts P w K mg where
  f__law_pot := ⟨_, _, PySem.W.mg_of X G a0, fun_mk (st := s__law_pot) l0 c0 k0⟩
  f__law_draw := ⟨_, _, PySem.W.mg_of X G a1, fun_mk (st := s__law_draw) l1 c1 k1⟩
  f__law_pick := ⟨_, _, PySem.W.mg_of X G a2, fun_mk (st := s__law_pick) l2 c2 k2⟩
  f__law_piece := ⟨_, _, PySem.W.mg_of X G a3, fun_mk (st := s__law_piece) l3 c3 k3⟩
  f__law_text := ⟨_, _, PySem.W.mg_of X G a4, fun_mk (st := s__law_text) l4 c4 k4⟩
  f__law_kind_of := ⟨_, _, PySem.W.mg_of X G a5, fun_mk (st := s__law_kind_of) l5 c5 k5⟩
  f__law_lex := ⟨_, _, PySem.W.mg_of X G a6, fun_mk (st := s__law_lex) l6 c6 k6⟩
  f__law_place_at := ⟨_, _, PySem.W.mg_of X G a7, fun_mk (st := s__law_place_at) l7 c7 k7⟩
  f__law_lexed := ⟨_, _, PySem.W.mg_of X G a8, fun_mk (st := s__law_lexed) l8 c8 k8⟩
  f_check_text := ⟨_, _, PySem.W.mg_of X G a9, fun_mk (st := s_check_text) l9 c9 k9⟩
  f_signs_of := ⟨_, _, PySem.W.mg_of X G a10, fun_mk (st := s_signs_of) l10 c10 k10⟩
  f_wrong_with := ⟨_, _, PySem.W.mg_of X G a11, fun_mk (st := s_wrong_with) l11 c11 k11⟩
  f_run_at := ⟨_, _, PySem.W.mg_of X G a12, fun_mk (st := s_run_at) l12 c12 k12⟩
  f_place_behind := ⟨_, _, PySem.W.mg_of X G a13, fun_mk (st := s_place_behind) l13 c13 k13⟩
  f_scanned := ⟨_, _, PySem.W.mg_of X G a14, fun_mk (st := s_scanned) l14 c14 k14⟩
  f_looked_over := ⟨_, _, PySem.W.mg_of X G a15, fun_mk (st := s_looked_over) l15 c15 k15⟩
  f_tokens := ⟨_, _, PySem.W.mg_of X G a16, fun_mk (st := s_tokens) l16 c16 k16⟩
  f_token_fault := ⟨_, _, PySem.W.mg_of X G a17, fun_mk (st := s_token_fault) l17 c17 k17⟩
  f_fault_by := ⟨_, _, PySem.W.mg_of X G a18, fun_mk (st := s_fault_by) l18 c18 k18⟩
  f_letter_fault := ⟨_, _, PySem.W.mg_of X G a19, fun_mk (st := s_letter_fault) l19 c19 k19⟩
  f_law := ⟨_, _, PySem.W.mg_of X G a20, fun_mk (st := s_law) l20 c20 k20⟩
  z_abs := PySem.W.mg_none_of X G z0
  z_divmod := PySem.W.mg_none_of X G z1
  z_int := PySem.W.mg_none_of X G z2
  z_isinstance := PySem.W.mg_none_of X G z3
  z_len := PySem.W.mg_none_of X G z4
  z_max := PySem.W.mg_none_of X G z5
  z_range := PySem.W.mg_none_of X G z6
  z_repr := PySem.W.mg_none_of X G z7
  z_sorted := PySem.W.mg_none_of X G z8
  z_str := PySem.W.mg_none_of X G z9
  g_BLANKS := GD.strS (PySem.W.mg_of X G g0) ks37
  g_DIGITS := GD.strS (PySem.W.mg_of X G g1) ks40
  g_LETTERS := GD.strS (PySem.W.mg_of X G g2) ks39
  g_MOST_DIGITS := GD.int (PySem.W.mg_of X G g3)
  g_MOST_LETTERS := GD.int (PySem.W.mg_of X G g4)
  g_MOST_SIGNS := GD.int (PySem.W.mg_of X G g5)
  g_SIGN := GD.strS (PySem.W.mg_of X G g6) ks19
theorem law_in {l : PySem.W.OpenLaw} {w : World} {K : PySem.W.Frag} {h : Heap} {mg : Str → Option Value} {fa : Addr} (B : Facts l.prog w K mg) (hfa : mg "law" = some (.ref fa)) :
    ∃ fd : FuncData, (∀ (s : Shared) (u : Value), BindsTo s fd ⟨[u], []⟩ [("script", u)]) ∧ ∀ base : Heap, K.In base → base.Ns mainGlobals mg → FnG l.prog w K mg base 7 fa fd ["script"] m_law := by
  obtain ⟨f, fd, h, F⟩ := B.f_law
  obtain rfl : f = fa := Value.ref.inj (Option.some.inj (h.symm.trans hfa))
  refine ⟨fd, fun s u => ?_, fun base _ _ => ok_law B F base⟩
  obtain ⟨oc, od, kV, doc, pm, an, cdv, ct, osl, rfl, lk, hcd⟩ := F.ex
  exact .of_eq rfl
end K11

/-! k11: what the mirrors of the program answer. -/
namespace K11
open PySem PySem.Spec L2 MP
abbrev lets : List Nat := kc39
abbrev digs : List Nat := kc40
def cls (c : Nat) : Nat := if 97 ≤ c ∧ c ≤ 122 then 1 else if 48 ≤ c ∧ c ≤ 57 then 2 else 0
theorem mem_let (c : Nat) : c ∈ lets ↔ cls c = 1 := by
  unfold cls lets kc39
  simp only [List.mem_cons, List.not_mem_nil, or_false]
  split
  · constructor <;> intro h
    · rfl
    · omega
  · split <;> constructor <;> intro h <;> omega
theorem mem_dig (c : Nat) : c ∈ digs ↔ cls c = 2 := by
  unfold cls digs kc40
  simp only [List.mem_cons, List.not_mem_nil, or_false]
  split
  · constructor <;> intro h <;> omega
  · split
    · constructor <;> intro h <;> omega
    · constructor <;> intro h <;> omega
theorem cls_lt (c : Nat) : cls c = 0 ∨ cls c = 1 ∨ cls c = 2 := by
  unfold cls
  split
  · exact .inr (.inl rfl)
  · split
    · exact .inr (.inr rfl)
    · exact .inl rfl
/-- the signs of a class -/
def sg (k : Nat) : List Nat := if k = 1 then lets else if k = 2 then digs else []
theorem mem_sg (d c : Nat) (h : cls c ≠ 0) : d ∈ sg (cls c) ↔ cls d = cls c := by
  rcases cls_lt c with e | e | e
  · exact absurd e h
  · rw [e]; exact mem_let d
  · rw [e]; exact mem_dig d
theorem p_check (l : List Nat) : m_check_text [.str (S l)] = some (.non, [some (.str (S l))]) := by
  unfold m_check_text
  rw [ev_fn]
  simp [b_check_text]
theorem p_signs (c : Nat) : m_signs_of [.str (S [c])] = some (.str (S (sg (cls c))), [some (.str (S [c]))]) := by
  unfold m_signs_of
  rw [ev_fn]
  rcases cls_lt c with e | e | e
  · have h1 : c ∉ lets := fun h => by rw [mem_let, e] at h; cases h
    have h2 : c ∉ digs := fun h => by rw [mem_dig, e] at h; cases h
    simp [b_signs_of, h1, h2, e, sg]
  · have h1 : c ∈ lets := (mem_let c).mpr e
    simp [b_signs_of, h1, e, sg]
  · have h1 : c ∉ lets := fun h => by rw [mem_let, e] at h; cases h
    have h2 : c ∈ digs := (mem_dig c).mpr e
    simp [b_signs_of, h1, h2, e, sg]
theorem p_place (l : List Nat) (hl : l.length ≤ 16777216) : m_place_behind [.str (S l)] = some (.tup false [.int (pl l).1, .int (pl l).2], [some (.str (S l))]) := by
  unfold m_place_behind
  rw [ev_fn, pl_line, pl_col]
  simp [b_place_behind, hl]

/-- how many signs from place e on are of sg -/
def more (g l : List Nat) (e : Nat) : Nat := ((l.drop e).takeWhile fun d => decide (d ∈ g)).length
theorem more_le (g l : List Nat) (e : Nat) (h : e ≤ l.length) : e + more g l e ≤ l.length := by
  unfold more
  have h1 := (List.takeWhile_sublist (l := l.drop e) fun d => decide (d ∈ g)).length_le
  rw [List.length_drop] at h1
  omega
theorem more_step {g l : List Nat} {e d : Nat} (h : l[e]? = some d) : more g l e = if d ∈ g then more g l (e + 1) + 1 else 0 := by
  unfold more
  obtain ⟨h1, h2⟩ := List.getElem?_eq_some_iff.mp h
  rw [List.drop_eq_getElem_cons h1, h2, List.takeWhile_cons]
  by_cases hd : d ∈ g
  · simp [hd]
  · simp [hd]
theorem more_end {g l : List Nat} {e : Nat} (h : l.length ≤ e) : more g l e = 0 := by
  unfold more
  rw [List.drop_eq_nil_of_le h]
  rfl
theorem run_loop (l g : List Nat) (a : Nat) (hl : l.length ≤ 16777216) (hg : g.isEmpty = false) : ∀ (n e : Nat) (i : Int), i = e → l.length - e < n → e ≤ l.length →
    sWhile wc1_run_at wb1_run_at [] n [some (.str (S l)), some (.int a), some (.str (S g)), some (.int i)] = some (.nx, [some (.str (S l)), some (.int a), some (.str (S g)), some (.int ((e + more g l e : Nat)))])
  | 0, e, i, hi, h, _ => absurd h (by omega)
  | n + 1, e, i, hi, h, he => by
    subst hi
    rw [ev_while]
    by_cases h1 : e < l.length
    · have hd := List.getElem?_eq_getElem h1
      rw [more_step hd]
      by_cases h2 : l[e] ∈ g
      · have ih := run_loop l g a hl hg n (e + 1) (e + 1) (by omega) (by omega) h1
        simp [e_wc1_run_at, e_wb1_run_at, hl, hg, h1, h2, atI_nat', hd, ih]
        omega
      · simp [e_wc1_run_at, hl, hg, h1, h2, atI_nat', hd]
    · rw [more_end (by omega)]
      simp [e_wc1_run_at, hl, hg, h1]
theorem sg_ne {c : Nat} (h : cls c ≠ 0) : (sg (cls c)).isEmpty = false := by
  rcases cls_lt c with e | e | e
  · exact absurd e h
  · rw [e]; decide
  · rw [e]; decide
/-- the token at a place -/
def tokAt (l : List Nat) (a : Nat) : List Nat := match l[a]? with
  | some c => (l.drop a).take (1 + if cls c = 0 then 0 else more (sg (cls c)) l (a + 1))
  | none => []
theorem fu_pos : ∃ m, fu = m + 1 := ⟨fu - 1, by decide⟩
theorem p_run (l : List Nat) (a : Nat) (hl : l.length ≤ 16777216) (ha : a < l.length) : m_run_at [.str (S l), .int a] = some (.str (S (tokAt l a)), [some (.str (S l)), some (.int a)]) := by
  unfold m_run_at
  rw [ev_fn]
  have hd := List.getElem?_eq_getElem ha
  have e : tokAt l a = (l.drop a).take (1 + if cls l[a] = 0 then 0 else more (sg (cls l[a])) l (a + 1)) := by
    unfold tokAt
    rw [hd]
  rw [e]
  have ha' : min a l.length = a := by omega
  have six : HT.sIx l.length l.length (some ((a : Int) + 1)) = a + 1 := by
    have := HT.sIx_nat l.length l.length (a + 1)
    simp at this
    rw [this]
    omega
  by_cases h0 : cls l[a] = 0
  · have hs : sg 0 = [] := rfl
    obtain ⟨m, hm⟩ := fu_pos
    have h2 : min (a + 1) l.length - a = 1 := by omega
    simp [b_run_at, hl, atI_nat', hd, p_signs, hs, hm, ev_while, h0, e_wc1_run_at, ha', six]
  · have lp := run_loop l (sg (cls l[a])) a hl (sg_ne h0) fu (a + 1) (a + 1) (by omega) (by unfold fu; omega) ha
    have h2 : HT.sIx l.length l.length (some ((a : Int) + 1 + (more (sg (cls l[a])) l (a + 1) : Nat))) - a = 1 + more (sg (cls l[a])) l (a + 1) := by
      have := HT.sIx_nat l.length l.length (a + 1 + more (sg (cls l[a])) l (a + 1))
      simp at this
      rw [this]
      have := more_le (sg (cls l[a])) l (a + 1) ha
      omega
    simp [b_run_at, hl, atI_nat', hd, p_signs, h0, lp, ha', h2]

/-- what is wrong with a token: 0 sign, 1 numeral, 2 word -/
def wrongAt (t : List Nat) (behind : Bool) : Option Nat := match t with
  | [] => none
  | c :: r => if cls c = 0 ∧ t ≠ [59] then some 0 else if cls c = 2 ∧ (7 < t.length ∨ (1 < t.length ∧ c = 48)) then some 1 else if (cls c = 1 ∧ 8 < t.length) ∨ (behind = true ∧ t ≠ [59]) then some 2 else none
def wname : Nat → List Nat
  | 0 => [115, 105, 103, 110]
  | 1 => [110, 117, 109, 101, 114, 97, 108]
  | 2 => [119, 111, 114, 100]
  | _ => [108, 111, 110, 103]
def optD : Option Nat → D
  | none => .non
  | some k => .str (S (wname k))
theorem p_wrong (c : Nat) (r : List Nat) (b : Bool) (hl : (c :: r).length ≤ 16777216) : m_wrong_with [.str (S (c :: r)), .bl b] = some (optD (wrongAt (c :: r) b), [some (.str (S (c :: r))), some (.bl b)]) := by
  unfold m_wrong_with
  rw [ev_fn]
  have hl' : r.length + 1 ≤ 16777216 := hl
  rcases cls_lt c with e | e | e
  · have h1 : c ∉ lets := fun h => by rw [mem_let, e] at h; cases h
    have h2 : c ∉ digs := fun h => by rw [mem_dig, e] at h; cases h
    cases r with
    | nil =>
      by_cases h3 : c = 59
      · subst h3
        cases b <;> simp [b_wrong_with, p_signs, e, sg, h1, h2, wrongAt, optD]
      · have hb : (c == 59) = false := beq_eq_false_iff_ne.mpr h3
        simp [b_wrong_with, p_signs, e, sg, h1, h2, wrongAt, optD, wname, h3, hb]
    | cons d r =>
      have hl2 : r.length + 1 + 1 ≤ 16777216 := hl
      simp [b_wrong_with, hl2, p_signs, e, sg, h1, h2, wrongAt, optD, wname]
  · have h1 : c ∈ lets := (mem_let c).mpr e
    have h2 : c ∉ digs := fun h => by rw [mem_dig, e] at h; cases h
    have h3 : c ≠ 59 := fun h => by subst h; revert e; decide
    have hle : lets.isEmpty = false := rfl
    have hb : (c == 59) = false := beq_eq_false_iff_ne.mpr h3
    by_cases h5 : (8 : Int) < r.length + 1
    · have h6 : 8 < r.length + 1 := by omega
      simp [b_wrong_with, hl', p_signs, e, sg, h1, h2, hle, wrongAt, optD, wname, h3, hb, h5, h6]
    · have h6 : ¬ 8 < r.length + 1 := by omega
      cases b <;> simp [b_wrong_with, hl', p_signs, e, sg, h1, h2, hle, wrongAt, optD, wname, h3, hb, h5, h6]
  · have h1 : c ∉ lets := fun h => by rw [mem_let, e] at h; cases h
    have h2 : c ∈ digs := (mem_dig c).mpr e
    have h3 : c ≠ 59 := fun h => by subst h; revert e; decide
    have hle : digs.isEmpty = false := rfl
    have hb : (c == 59) = false := beq_eq_false_iff_ne.mpr h3
    by_cases h5 : (7 : Int) < r.length + 1
    · have h6 : 7 < r.length + 1 := by omega
      simp [b_wrong_with, hl', p_signs, e, sg, h1, h2, hle, wrongAt, optD, wname, h3, hb, h5, h6]
    · have h6 : ¬ 7 < r.length + 1 := by omega
      by_cases h7 : (1 : Int) < r.length + 1
      · have h8 : 1 < r.length + 1 := by omega
        have h9 : 0 < r.length := by omega
        by_cases h10 : c = 48
        · subst h10
          simp [b_wrong_with, hl', p_signs, e, sg, h1, h2, hle, wrongAt, optD, wname, h5, h6, h7, h8, h9]
        · have hb2 : (c == 48) = false := beq_eq_false_iff_ne.mpr h10
          cases b <;> simp [b_wrong_with, hl', p_signs, e, sg, h1, h2, hle, wrongAt, optD, wname, h3, hb, hb2, h5, h6, h7, h8, h9, h10]
      · have h8 : ¬ 1 < r.length + 1 := by omega
        have h9 : ¬ 0 < r.length := by omega
        cases b <;> simp [b_wrong_with, hl', p_signs, e, sg, h1, h2, hle, wrongAt, optD, wname, h3, hb, h5, h6, h7, h8, h9]

/-- tokens with their starts, and the first that is wrong -/
def scan (l : List Nat) : Nat → Nat → Bool → List (List Nat × Nat) × Option (Nat × Nat)
  | 0, _, _ => ([], none)
  | n + 1, a, b => match l[a]? with
    | none => ([], none)
    | some c => if c = 32 ∨ c = 10 then scan l n (a + 1) false else match wrongAt (tokAt l a) b with
      | some k => ([], some (k, a))
      | none => ((tokAt l a, a) :: (scan l n (a + (tokAt l a).length) (!(tokAt l a == [59]))).1, (scan l n (a + (tokAt l a).length) (!(tokAt l a == [59]))).2)
def plD (l : List Nat) (a : Nat) : List D := [.int (pl (l.take a)).1, .int (pl (l.take a)).2]
def tokD (l : List Nat) (t : List Nat × Nat) : D := .tup false [.str (S t.1), .tup false (plD l t.2)]
def toksD (l : List Nat) (ts : List (List Nat × Nat)) : List D := ts.map (tokD l)
def faultD (l : List Nat) (k a : Nat) : D := .tup false (.str (S (wname k)) :: plD l a)
theorem tok_len {l : List Nat} {a c : Nat} (h : l[a]? = some c) : 1 ≤ (tokAt l a).length ∧ a + (tokAt l a).length ≤ l.length ∧ ∃ r, tokAt l a = c :: r := by
  obtain ⟨h1, h2⟩ := List.getElem?_eq_some_iff.mp h
  have e : tokAt l a = (l.drop a).take (1 + if cls c = 0 then 0 else more (sg (cls c)) l (a + 1)) := by
    unfold tokAt
    rw [h]
  have e2 : l.drop a = c :: l.drop (a + 1) := by rw [List.drop_eq_getElem_cons h1, h2]
  rw [e]
  refine ⟨?_, ?_, ?_⟩
  · rw [List.length_take, List.length_drop]
    omega
  · rw [List.length_take, List.length_drop]
    omega
  · rw [e2, Nat.add_comm, List.take_succ_cons]
    exact ⟨_, rfl⟩
theorem scan_loop (l : List Nat) (hl : l.length ≤ 10000000) : ∀ (n a : Nat) (b : Bool) (acc : List D) (i : Int), i = a → l.length - a < n → a ≤ l.length → acc.length ≤ a →
    (∀ r, scan l n a b = (r, none) → ∃ b', sWhile wc1_scanned wb1_scanned [4, 5, 6] n [some (.str (S l)), some (.lst true acc), some (.int i), some (.bl b), none, none, none] = some (.nx, [some (.str (S l)), some (.lst true (acc ++ toksD l r)), some (.int l.length), some (.bl b'), none, none, none])) ∧
    (∀ r k s, scan l n a b = (r, some (k, s)) → ∃ E, sWhile wc1_scanned wb1_scanned [4, 5, 6] n [some (.str (S l)), some (.lst true acc), some (.int i), some (.bl b), none, none, none] = some (.rt (.tup true [.lst true (acc ++ toksD l r), faultD l k s]), some (.str (S l)) :: E))
  | 0, a, b, acc, i, _, h, _, _ => absurd h (by omega)
  | n + 1, a, b, acc, i, hi, h, ha, hacc => by
    subst hi
    rw [ev_while]
    by_cases h1 : a < l.length
    · have hd := List.getElem?_eq_getElem h1
      have h1' : (a : Int) < l.length := by omega
      have hl2 : l.length ≤ 16777216 := by omega
      by_cases h2 : l[a] = 32 ∨ l[a] = 10
      · obtain ⟨ih1, ih2⟩ := scan_loop l hl n (a + 1) false acc (a + 1) (by omega) (by omega) h1 (by omega)
        have e : scan l (n + 1) a b = scan l n (a + 1) false := by
          show (match l[a]? with | none => _ | some c => _) = _
          rw [hd]
          show (if _ then _ else _) = _
          rw [if_pos h2]
        rw [e]
        refine ⟨fun r hr => ?_, fun r k s hr => ?_⟩
        · obtain ⟨b', q⟩ := ih1 r hr
          refine ⟨b', ?_⟩
          simp [e_wc1_scanned, e_wb1_scanned, hl2, h1', atI_nat', hd, h2, q]
        · obtain ⟨E, q⟩ := ih2 r k s hr
          refine ⟨E, ?_⟩
          simp [e_wc1_scanned, e_wb1_scanned, hl2, h1', atI_nat', hd, h2, q]
      · obtain ⟨t1, t2, r0, t3⟩ := tok_len hd
        have hb : ¬ (l[a] == 32) = true ∧ ¬ (l[a] == 10) = true := by simpa using h2
        have pr := p_run l a hl2 h1
        have pp := p_place (l.take a) (by rw [List.length_take]; omega)
        have pw : m_wrong_with [.str (S (tokAt l a)), .bl b] = some (optD (wrongAt (tokAt l a) b), [some (.str (S (tokAt l a))), some (.bl b)]) := by
          rw [t3]
          exact p_wrong _ _ _ (by rw [← t3]; omega)
        have hm : min a l.length = a := by omega
        have hacc2 : acc.length ≤ 16777215 := by omega
        have htl : (tokAt l a).length ≤ 16777216 := by omega
        cases hw : wrongAt (tokAt l a) b with
        | some k =>
          have e : scan l (n + 1) a b = ([], some (k, a)) := by
            show (match l[a]? with | none => _ | some c => _) = _
            rw [hd]
            show (if _ then _ else _) = _
            rw [if_neg h2, hw]
          rw [e]
          refine ⟨fun r hr => ?_, fun r k' s hr => ?_⟩
          · cases hr
          · cases hr
            rw [hw] at pw
            refine ⟨[none, some (.int a), some (.bl b), some (.str (S (tokAt l a))), some (.tup false (plD l a)), some (.str (S (wname k)))], ?_⟩
            simp [e_wc1_scanned, e_wb1_scanned, hl2, h1', atI_nat', hd, h2, pr, pp, pw, hm, optD, faultD, plD, toksD]
        | none =>
          have e : scan l (n + 1) a b = ((tokAt l a, a) :: (scan l n (a + (tokAt l a).length) (!(tokAt l a == [59]))).1, (scan l n (a + (tokAt l a).length) (!(tokAt l a == [59]))).2) := by
            show (match l[a]? with | none => _ | some c => _) = _
            rw [hd]
            show (if _ then _ else _) = _
            rw [if_neg h2, hw]
          obtain ⟨ih1, ih2⟩ := scan_loop l hl n (a + (tokAt l a).length) (!(tokAt l a == [59])) (acc ++ [tokD l (tokAt l a, a)]) (a + (tokAt l a).length) (by omega) (by omega) t2 (by simp; omega)
          rw [e]
          rw [hw] at pw
          have cat : ∀ (x : List Nat × Nat) (r : List (List Nat × Nat)), acc ++ toksD l (x :: r) = acc ++ [tokD l x] ++ toksD l r := fun x r => by simp [toksD]
          refine ⟨fun r hr => ?_, fun r k s hr => ?_⟩
          · have hr1 := congrArg Prod.snd hr
            have hr2 := congrArg Prod.fst hr
            rcases hz : scan l n (a + (tokAt l a).length) (!(tokAt l a == [59])) with ⟨r', f'⟩
            rw [hz] at hr1 hr2
            simp only at hr1 hr2
            subst hr1
            subst hr2
            have hr' := hz
            obtain ⟨b', q⟩ := ih1 _ hr'
            rw [cat]
            refine ⟨b', ?_⟩
            simp [tokD, plD] at q
            simp [e_wc1_scanned, e_wb1_scanned, hl2, h1', atI_nat', hd, h2, pr, pp, pw, hm, hacc2, htl, optD, tokD, plD, q]
          · have hr1 := congrArg Prod.snd hr
            have hr2 := congrArg Prod.fst hr
            rcases hz : scan l n (a + (tokAt l a).length) (!(tokAt l a == [59])) with ⟨r', f'⟩
            rw [hz] at hr1 hr2
            simp only at hr1 hr2
            subst hr1
            subst hr2
            have hr' := hz
            obtain ⟨E, q⟩ := ih2 _ _ _ hr'
            rw [cat]
            refine ⟨E, ?_⟩
            simp [tokD, plD] at q
            simp [e_wc1_scanned, e_wb1_scanned, hl2, h1', atI_nat', hd, h2, pr, pp, pw, hm, hacc2, htl, optD, tokD, plD, q]
    · have hn : l[a]? = none := List.getElem?_eq_none_iff.mpr (by omega)
      have e : scan l (n + 1) a b = ([], none) := by
        show (match l[a]? with | none => _ | some c => _) = _
        rw [hn]
      have hz : a = l.length := by omega
      subst hz
      rw [e]
      refine ⟨fun r hr => ⟨b, ?_⟩, fun r k s hr => ?_⟩
      · cases hr
        have hl2 : l.length ≤ 16777216 := by omega
        simp [e_wc1_scanned, hl2, toksD]
      · cases hr

theorem w3 : wname 3 = [108, 111, 110, 103] := rfl
def optF (l : List Nat) : Option (Nat × Nat) → D
  | none => .non
  | some (k, s) => faultD l k s
theorem p_scanned (l : List Nat) (hl : l.length ≤ 10000000) : m_scanned [.str (S l)] = some (.tup true [.lst true (toksD l (scan l fu 0 false).1), optF l (scan l fu 0 false).2], [some (.str (S l))]) := by
  unfold m_scanned
  rw [ev_fn]
  obtain ⟨h1, h2⟩ := scan_loop l hl fu 0 false [] 0 rfl (by unfold fu; omega) (Nat.zero_le _) (Nat.zero_le _)
  rcases hz : scan l fu 0 false with ⟨r, f⟩
  cases f with
  | none =>
    obtain ⟨b', q⟩ := h1 r hz
    simp at q
    simp [b_scanned, q, optF]
  | some x =>
    obtain ⟨k, a⟩ := x
    obtain ⟨E, q⟩ := h2 r k a hz
    simp at q
    simp [b_scanned, q, optF]
/-! places are in the sequence of the starts -/
def before (p q : Nat × Nat) : Bool := HT.lexLt [(p.1 : Int), (p.2 : Int)] [(q.1 : Int), (q.2 : Int)]
theorem before_iff (p q : Nat × Nat) : before p q = true ↔ p.1 < q.1 ∨ (p.1 = q.1 ∧ p.2 < q.2) := by
  unfold before
  rw [HT.lexLt_cons, HT.lexLt_cons, HT.lexLt_nil_nil]
  by_cases h : p.1 = q.1
  · rw [if_pos (by omega)]
    by_cases h2 : p.2 = q.2
    · rw [if_pos (by omega)]
      simp
      omega
    · rw [if_neg (by omega), decide_eq_true_eq]
      omega
  · rw [if_neg (by omega), decide_eq_true_eq]
    omega
theorem pl_mono (l : List Nat) (i j : Nat) (hj : j ≤ l.length) (h : i < j) : before (pl (l.take i)) (pl (l.take j)) = true := by
  induction j with
  | zero => omega
  | succ j ih =>
    have hj' : j < l.length := hj
    have e : l.take (j + 1) = l.take j ++ [l[j]] := (List.take_append_getElem hj').symm
    have step : before (pl (l.take j)) (pl (l.take (j + 1))) = true := by
      rw [before_iff, e, pl_snoc]
      split
      · exact .inl (Nat.lt_succ_self _)
      · exact .inr ⟨rfl, Nat.lt_succ_self _⟩
    by_cases hij : i = j
    · rw [hij]
      exact step
    · have h1 := (before_iff _ _).mp (ih (by omega) (by omega))
      have h2 := (before_iff _ _).mp step
      rw [before_iff]
      omega
theorem before_at (l : List Nat) (i j : Nat) (hi : i ≤ l.length) (hj : j ≤ l.length) : before (pl (l.take i)) (pl (l.take j)) = decide (i < j) := by
  by_cases h : i < j
  · rw [pl_mono l i j hj h, decide_eq_true h]
  · rw [decide_eq_false h]
    have no : ∀ p q : Nat × Nat, before q p = true ∨ p = q → before p q = false := fun p q hp => by
      cases hb : before p q with
      | false => rfl
      | true =>
        have h1 := (before_iff _ _).mp hb
        rcases hp with hp | hp
        · have h2 := (before_iff _ _).mp hp
          omega
        · subst hp
          omega
    by_cases hij : i = j
    · rw [hij]
      exact no _ _ (.inr rfl)
    · exact no _ _ (.inl (pl_mono l j i hi (by omega)))

@[simp] theorem lt_tup2 (o p : Bool) (a b c d : Int) : ltD (.tup o [.int a, .int b]) (.tup p [.int c, .int d]) = some (.bl (HT.lexLt [a, b] [c, d])) := rfl
@[simp] theorem cut31 (a b c : D) : cutD [a, b, c] (some 1) none = [b, c] := rfl
@[simp] theorem cut42 (a b c d : D) : cutD [a, b, c, d] none (some 2) = [a, b] := rfl
/-- the tokens that begin ahead of a place -/
def ahead (ts : List (List Nat × Nat)) (j : Nat) : List (List Nat × Nat) := ts.filter fun t => decide (t.2 < j)
def InText (l : List Nat) (ts : List (List Nat × Nat)) : Prop := ∀ t ∈ ts, t.2 ≤ l.length
theorem look_comp (l : List Nat) (j : Nat) (hj : j ≤ l.length) (f : D) : ∀ ts : List (List Nat × Nat), InText l ts →
    cL cg1_looked_over ct1_looked_over ce1_looked_over [4] (toksD l ts) [some (.str (S l)), none, some f, some (.tup false (plD l j)), none] = some (toksD l (ahead ts j), [some (.str (S l)), none, some f, some (.tup false (plD l j)), none])
  | [], _ => rfl
  | t :: ts, h => by
    have ih := look_comp l j hj f ts fun u hu => h u (List.mem_cons_of_mem _ hu)
    have ht : t.2 ≤ l.length := h t List.mem_cons_self
    have e := before_at l t.2 j ht hj
    unfold before at e
    show cL cg1_looked_over ct1_looked_over ce1_looked_over [4] (tokD l t :: toksD l ts) _ = _
    rw [ev_cl1]
    by_cases hlt : t.2 < j
    · have ea : toksD l (ahead (t :: ts) j) = tokD l t :: toksD l (ahead ts j) := by simp [ahead, hlt, toksD]
      rw [ea]
      simp [hlt] at e
      simp [plD] at ih
      simp [e_cg1_looked_over, e_ct1_looked_over, e_ce1_looked_over, tokD, plD, e, ih]
    · have ea : toksD l (ahead (t :: ts) j) = toksD l (ahead ts j) := by simp [ahead, hlt]
      rw [ea]
      simp [hlt] at e
      simp [plD] at ih
      simp [e_cg1_looked_over, e_ct1_looked_over, e_ce1_looked_over, tokD, plD, e, ih]
theorem scan_in (l : List Nat) : ∀ (n a : Nat) (b : Bool), InText l (scan l n a b).1 ∧ ∀ k s, (scan l n a b).2 = some (k, s) → s < l.length
  | 0, a, b => ⟨fun t h => (by simp [scan] at h), fun k s h => by simp [scan] at h⟩
  | n + 1, a, b => by
    unfold scan
    split
    · exact ⟨fun t h => by simp at h, fun k s h => by simp at h⟩
    · rename_i c hc
      have ha : a < l.length := (List.getElem?_eq_some_iff.mp hc).1
      split
      · exact scan_in l n (a + 1) false
      · split
        · refine ⟨fun t h => by simp at h, fun k s h => ?_⟩
          simp only [Option.some.injEq, Prod.mk.injEq] at h
          omega
        · obtain ⟨h1, h2⟩ := scan_in l n (a + (tokAt l a).length) (!(tokAt l a == [59]))
          refine ⟨fun t h => ?_, h2⟩
          rcases List.mem_cons.mp h with e | h
          · rw [e]
            exact Nat.le_of_lt ha
          · exact h1 t h
def lookR (l : List Nat) : List (List Nat × Nat) × Option (Nat × Nat) :=
  if 4000 < l.length then (match (scan l fu 0 false).2 with
    | none => (ahead (scan l fu 0 false).1 4000, some (3, 4000))
    | some (k, s) => if 4000 < s then (ahead (scan l fu 0 false).1 4000, some (3, 4000)) else scan l fu 0 false)
  else scan l fu 0 false
theorem toks_frozen (l : List Nat) (ts : List (List Nat × Nat)) : frozenL (toksD l ts) = true := by
  induction ts with
  | nil => rfl
  | cons t ts ih =>
    show frozenL (tokD l t :: toksD l ts) = true
    simp [tokD, plD, ih]
theorem ahead_len (ts : List (List Nat × Nat)) (j : Nat) : (ahead ts j).length ≤ ts.length := List.length_filter_le _ _
theorem scan_len (l : List Nat) : ∀ (n a : Nat) (b : Bool), a ≤ l.length → (scan l n a b).1.length ≤ l.length - a
  | 0, a, b, _ => Nat.zero_le _
  | n + 1, a, b, h => by
    unfold scan
    split
    · exact Nat.zero_le _
    · rename_i c hc
      have ha : a < l.length := (List.getElem?_eq_some_iff.mp hc).1
      split
      · have := scan_len l n (a + 1) false ha
        omega
      · split
        · exact Nat.zero_le _
        · obtain ⟨t1, t2, _⟩ := tok_len hc
          have := scan_len l n (a + (tokAt l a).length) (!(tokAt l a == [59])) t2
          simp only [List.length_cons]
          omega
theorem p_looked (l : List Nat) (hl : l.length ≤ 10000000) : m_looked_over [.str (S l)] = some (.tup true [.lst true (toksD l (lookR l).1), optF l (lookR l).2], [some (.str (S l))]) := by
  unfold m_looked_over
  rw [ev_fn]
  have ps := p_scanned l hl
  obtain ⟨in1, in2⟩ := scan_in l fu 0 false
  have len1 := scan_len l fu 0 false (Nat.zero_le _)
  have hl2 : l.length ≤ 16777216 := by omega
  unfold lookR
  rcases hz : scan l fu 0 false with ⟨r, f⟩
  rw [hz] at ps in1 in2 len1
  by_cases h4 : 4000 < l.length
  · have h4' : (4000 : Int) < l.length := by omega
    rw [if_pos h4]
    have pp := p_place (l.take 4000) (by rw [List.length_take]; omega)
    have h5 : min 4000 l.length = 4000 := by omega
    have hc := ahead_len r 4000
    have hc2 : (toksD l (ahead r 4000)).length ≤ 16777216 := by
      unfold toksD
      rw [List.length_map]
      simp only at len1
      omega
    have six : HT.sIx l.length l.length (some 4000) = 4000 := by
      have := HT.sIx_nat l.length l.length 4000
      simp at this
      omega
    cases f with
    | none =>
      have lc := look_comp l 4000 (by omega) .non r in1
      simp [plD] at lc
      simp [b_looked_over, ps, optF, hl2, h4', h5, pp, six, toks_frozen, lc, hc2, faultD, plD, backF, w3]
    | some x =>
      obtain ⟨k, s⟩ := x
      have lc := look_comp l 4000 (by omega) (faultD l k s) r in1
      have hs : s < l.length := in2 k s rfl
      have e := before_at l 4000 s (by omega) (by omega)
      unfold before at e
      by_cases hk : 4000 < s
      · simp [hk] at e
        simp [plD, faultD] at lc
        simp [b_looked_over, ps, optF, hl2, h4', h5, pp, six, toks_frozen, lc, hc2, faultD, plD, backF, w3, e, hk]
      · simp [hk] at e
        simp [b_looked_over, ps, optF, hl2, h4', h5, pp, six, toks_frozen, faultD, plD, e, hk]
  · have h4' : ¬ (4000 : Int) < l.length := by omega
    rw [if_neg h4]
    cases f with
    | none => simp [b_looked_over, ps, optF, hl2, h4']
    | some x =>
      obtain ⟨k, s⟩ := x
      simp [b_looked_over, ps, optF, hl2, h4', faultD, plD]

theorem p_tokens (l : List Nat) (hl : l.length ≤ 10000000) : m_tokens [.str (S l)] = some (.lst true (toksD l (lookR l).1), [some (.str (S l))]) := by
  unfold m_tokens
  rw [ev_fn]
  simp [b_tokens, p_check, p_looked l hl]
theorem p_fault (l : List Nat) (hl : l.length ≤ 10000000) : m_token_fault [.str (S l)] = some (optF l (lookR l).2, [some (.str (S l))]) := by
  unfold m_token_fault
  rw [ev_fn]
  simp [b_token_fault, p_check, p_looked l hl]
theorem p_letter (l : List Nat) (hl : l.length ≤ 10000000) (k s : Nat) (h : (lookR l).2 = some (k, s)) : m_letter_fault [.str (S l)] = some (faultD l k s, [some (.str (S l))]) := by
  have e : m_fault_by [.str (S l)] = some (faultD l k s, [some (.str (S l))]) := by
    unfold m_fault_by
    rw [ev_fn]
    simp [b_fault_by, p_looked l hl, h, optF, faultD, plD]
  unfold m_letter_fault
  rw [ev_fn]
  simp [b_letter_fault, p_check, e]
end K11

/-! k11: what the mirrors of the law's own defs answer. -/
namespace K11
open PySem PySem.Spec L2 MP
def kn (k : Nat) : List Nat := if k = 1 then wname 2 else if k = 2 then wname 1 else wname 0
theorem q_kind (c : Nat) : m__law_kind_of [.str (S [c])] = some (.str (S (kn (cls c))), [some (.str (S [c]))]) := by
  unfold m__law_kind_of
  rw [ev_fn]
  unfold cls
  by_cases h1 : 97 ≤ c
  · by_cases h6 : c ≤ 122
    · simp [b__law_kind_of, h1, h6, kn, wname]
    · have h5 : ¬ c ≤ 57 := by omega
      by_cases h3 : 48 ≤ c
      · simp [b__law_kind_of, h1, h6, h3, h5, kn, wname]
      · omega
  · by_cases h3 : 48 ≤ c
    · by_cases h5 : c ≤ 57
      · simp [b__law_kind_of, h1, h3, h5, kn, wname]
      · simp [b__law_kind_of, h1, h3, h5, kn, wname]
    · simp [b__law_kind_of, h1, h3, kn, wname]
theorem kn_inj {c d : Nat} : kn (cls c) = kn (cls d) ↔ cls c = cls d := by
  rcases cls_lt c with e | e | e <;> rcases cls_lt d with f | f | f <;> rw [e, f] <;> decide
theorem kn_sign {c : Nat} : kn (cls c) = wname 0 ↔ cls c = 0 := by
  rcases cls_lt c with e | e | e <;> rw [e] <;> decide
theorem q_place (l : List Nat) (a : Nat) (hl : l.length ≤ 16777216) (ha : a ≤ l.length) : m__law_place_at [.str (S l), .int a] = some (.tup false [.int (pl (l.take a)).1, .int (pl (l.take a)).2], [some (.str (S l)), some (.int a)]) := by
  unfold m__law_place_at
  rw [ev_fn, pl_line, pl_col]
  have h : min a l.length = a := by omega
  simp [b__law_place_at, hl, h]

theorem lex_run (l : List Nat) (c : Nat) (hc : cls c ≠ 0) (hl : l.length ≤ 16777216) (x1 x2 x3 x4 x5 x8 x9 : Option D) : ∀ (n e : Nat) (i : Int), i = e → l.length - e < n → e ≤ l.length →
    sWhile wc1__law_lex wb1__law_lex [] n [some (.str (S l)), x1, x2, x3, x4, x5, some (.str (S (kn (cls c)))), some (.int i), x8, x9] =
      some (.nx, [some (.str (S l)), x1, x2, x3, x4, x5, some (.str (S (kn (cls c)))), some (.int ((e + more (sg (cls c)) l e : Nat))), x8, x9])
  | 0, e, i, hi, h, _ => absurd h (by omega)
  | n + 1, e, i, hi, h, he => by
    subst hi
    rw [ev_while]
    have hk : (kn (cls c) == [115, 105, 103, 110]) = false := beq_eq_false_iff_ne.mpr fun z => hc (kn_sign.mp z)
    by_cases h1 : e < l.length
    · have hd := List.getElem?_eq_getElem h1
      rw [more_step hd]
      have hmem := mem_sg l[e] c hc
      by_cases h2 : cls l[e] = cls c
      · have ih := lex_run l c hc hl x1 x2 x3 x4 x5 x8 x9 n (e + 1) (e + 1) (by omega) (by omega) h1
        have h3 : l[e] ∈ sg (cls c) := hmem.mpr h2
        simp [e_wc1__law_lex, e_wb1__law_lex, hl, hk, h1, h2, h3, atI_nat', hd, q_kind, ih]
        omega
      · have h3 : l[e] ∉ sg (cls c) := fun z => h2 (hmem.mp z)
        have h4 : (kn (cls l[e]) == kn (cls c)) = false := beq_eq_false_iff_ne.mpr fun z => h2 (kn_inj.mp z)
        simp [e_wc1__law_lex, hl, hk, h1, h3, h4, atI_nat', hd, q_kind]
    · rw [more_end (by omega)]
      simp [e_wc1__law_lex, hl, hk, h1]
/-- stands beside a word or numeral of the other kind -/
def beside (l : List Nat) (c : Nat) : Nat → Bool
  | 0 => false
  | a + 1 => match l[a]? with
    | some p => !(cls c == 0) && (!(decide (p ∈ [32, 10])) && !(kn (cls p) == wname 0 || kn (cls p) == kn (cls c)))
    | none => false
/-- the faults of one token -/
def lf (l : List Nat) (a c : Nat) (t : List Nat) : List (Nat × Nat) :=
  (if cls c = 0 ∧ t ≠ [59] then [(0, a)] else []) ++ ((if cls c = 2 ∧ (7 < t.length ∨ (c = 48 ∧ t ≠ [48])) then [(1, a)] else []) ++ (if (cls c = 1 ∧ 8 < t.length) ∨ beside l c a = true then [(2, a)] else []))
def lex (l : List Nat) : Nat → Nat → List (List Nat × Nat) × List (Nat × Nat)
  | 0, _ => ([], [])
  | n + 1, a => match l[a]? with
    | none => ([], [])
    | some c => if c = 32 ∨ c = 10 then lex l n (a + 1) else
      ((tokAt l a, a) :: (lex l n (a + (tokAt l a).length)).1, lf l a c (tokAt l a) ++ (lex l n (a + (tokAt l a).length)).2)
def lfD (l : List Nat) (f : Nat × Nat) : D := .tup false (plD l f.2 ++ [.int f.1, .str (S (wname f.1))])
def lfsD (l : List Nat) (fs : List (Nat × Nat)) : List D := fs.map (lfD l)
theorem of_takeWhile {p : Nat → Bool} {d : Nat} : ∀ {xs : List Nat}, d ∈ xs.takeWhile p → p d = true
  | [], h => by simp at h
  | x :: xs, h => by
    rw [List.takeWhile_cons] at h
    split at h
    · rename_i hx
      rcases List.mem_cons.mp h with e | h
      · rw [e]
        exact hx
      · exact of_takeWhile h
    · simp at h
theorem no_nl (l : List Nat) (a c : Nat) (hd : l[a]? = some c) (hc : ¬ (c = 32 ∨ c = 10)) : ∀ d ∈ tokAt l a, d ≠ 10 := by
  obtain ⟨h1, h2⟩ := List.getElem?_eq_some_iff.mp hd
  have e : tokAt l a = (l.drop a).take (1 + if cls c = 0 then 0 else more (sg (cls c)) l (a + 1)) := by
    unfold tokAt
    rw [hd]
  have e2 : l.drop a = c :: l.drop (a + 1) := by rw [List.drop_eq_getElem_cons h1, h2]
  rw [e, e2, Nat.add_comm, List.take_succ_cons]
  intro d hm
  rcases List.mem_cons.mp hm with q | hm
  · rw [q]
    exact fun z => hc (.inr z)
  · split at hm
    · simp at hm
    · rename_i h0
      unfold more at hm
      have hp : ∀ (p : Nat → Bool) (xs : List Nat), xs.take (xs.takeWhile p).length = xs.takeWhile p := fun p xs => by
        have := List.takeWhile_prefix (l := xs) p
        exact (List.prefix_iff_eq_take.mp this).symm
      rw [hp] at hm
      have := of_takeWhile hm
      simp only [decide_eq_true_eq] at this
      have q := (mem_sg d c h0).mp this
      intro z
      subst z
      rw [← q] at h0
      exact h0 (by decide)
theorem pl_run : ∀ (t p : List Nat), (∀ d ∈ t, d ≠ 10) → pl (p ++ t) = ((pl p).1, (pl p).2 + t.length)
  | [], p, _ => by simp
  | c :: t, p, h => by
    have ih := pl_run t (p ++ [c]) fun d hd => h d (List.mem_cons_of_mem _ hd)
    have e : p ++ c :: t = p ++ [c] ++ t := by simp
    rw [e, ih, pl_snoc, if_neg (h c List.mem_cons_self)]
    simp
    omega
theorem pl_tok (l : List Nat) (a c : Nat) (hd : l[a]? = some c) (hc : ¬ (c = 32 ∨ c = 10)) : pl (l.take (a + (tokAt l a).length)) = ((pl (l.take a)).1, (pl (l.take a)).2 + (tokAt l a).length) := by
  have h := pl_run (tokAt l a) (l.take a) (no_nl l a c hd hc)
  rw [← h]
  congr 1
  have e : tokAt l a = (l.drop a).take (tokAt l a).length := by
    have e0 : tokAt l a = (l.drop a).take (1 + if cls c = 0 then 0 else more (sg (cls c)) l (a + 1)) := by
      unfold tokAt
      rw [hd]
    rw [e0, List.length_take]
    rw [List.take_eq_take_min]
  rw [List.take_add]
  exact congrArg _ e.symm

theorem bes (l : List Nat) (a c : Nat) (hl : l.length ≤ 16777216) (ha : a < l.length) (x1 x2 x4 x5 x7 x8 x9 : Option D) :
    andX (op2 gtD (oN 3) (oV (xC (.int (0))))) (andX (op2 neE (oN 6) (oV (xC (.str (S [115, 105, 103, 110]))))) (andX (op2 notInD (oV (op2 ixD (oN 0) (oV (op2 subD (oN 3) (oV (xC (.int (1)))))))) (oV (xC (.str (S [32, 10])))))
      (op2 notInD (oV (xCall m__law_kind_of (hCons (oV (op2 ixD (oN 0) (oV (op2 subD (oN 3) (oV (xC (.int (1)))))))) hNil))) (oV (dTup (xCons (xC (.str (S [115, 105, 103, 110]))) (xCons (xSh 6) xNil)))))))
      [some (.str (S l)), x1, x2, some (.int a), x4, x5, some (.str (S (kn (cls c)))), x7, x8, x9] = some (.bl (beside l c a), [some (.str (S l)), x1, x2, some (.int a), x4, x5, some (.str (S (kn (cls c)))), x7, x8, x9]) := by
  cases a with
  | zero => simp [beside]
  | succ a =>
    have hd := List.getElem?_eq_getElem (show a < l.length by omega)
    have e1 : ((a : Int) + 1 - 1) = (a : Int) := by omega
    have h0 : (0 : Int) < (a : Int) + 1 := by omega
    have eb : beside l c (a + 1) = (!(cls c == 0) && (!(decide (l[a] ∈ [32, 10])) && !(kn (cls l[a]) == wname 0 || kn (cls l[a]) == kn (cls c)))) := by
      show (match l[a]? with | some p => _ | none => false) = _
      rw [hd]
    rw [eb]
    have w0 : wname 0 = [115, 105, 103, 110] := rfl
    by_cases hc : cls c = 0
    · have hk : kn (cls c) = [115, 105, 103, 110] := kn_sign.mpr hc
      have hk' : kn 0 = [115, 105, 103, 110] := rfl
      simp [h0, hc, hk, hk']
    · have hk : (kn (cls c) == [115, 105, 103, 110]) = false := beq_eq_false_iff_ne.mpr fun z => hc (kn_sign.mp z)
      have hc' : (cls c == 0) = false := beq_eq_false_iff_ne.mpr hc
      by_cases hb : l[a] = 32 ∨ l[a] = 10
      · simp [h0, hc', hk, e1, hl, atI_nat', hd, hb, w0]
      · simp [h0, hc', hk, e1, hl, atI_nat', hd, hb, q_kind, w0]

theorem lf_len (l : List Nat) (a c : Nat) (t : List Nat) : (lf l a c t).length ≤ 3 := by
  unfold lf
  simp only [List.length_append]
  split <;> split <;> split <;> simp
/-- the inner loop, both cases -/
theorem lex_end (l : List Nat) (a c : Nat) (hd : l[a]? = some c) (hl : l.length ≤ 16777216) (x1 x2 x3 x4 x5 x8 x9 : Option D) :
    sWhile wc1__law_lex wb1__law_lex [] fu [some (.str (S l)), x1, x2, x3, x4, x5, some (.str (S (kn (cls c)))), some (.int ((a : Int) + 1)), x8, x9] =
      some (.nx, [some (.str (S l)), x1, x2, x3, x4, x5, some (.str (S (kn (cls c)))), some (.int ((a : Int) + ((tokAt l a).length : Nat))), x8, x9]) := by
  obtain ⟨h1, h2⟩ := List.getElem?_eq_some_iff.mp hd
  have e : tokAt l a = (l.drop a).take (1 + if cls c = 0 then 0 else more (sg (cls c)) l (a + 1)) := by
    unfold tokAt
    rw [hd]
  by_cases hc : cls c = 0
  · obtain ⟨m, hm⟩ := fu_pos
    have hk : kn (cls c) = [115, 105, 103, 110] := kn_sign.mpr hc
    have el : (tokAt l a).length = 1 := by
      rw [e, if_pos hc, List.length_take, List.length_drop]
      omega
    rw [hm, ev_while, el, hk]
    simp [e_wc1__law_lex]
  · have q := lex_run l c hc hl x1 x2 x3 x4 x5 x8 x9 fu (a + 1) (a + 1) (by omega) (by unfold fu; omega) h1
    have el : (tokAt l a).length = 1 + more (sg (cls c)) l (a + 1) := by
      have := more_le (sg (cls c)) l (a + 1) h1
      rw [e, if_neg hc, List.length_take, List.length_drop]
      omega
    rw [q, el]
    simp
    omega
theorem lex_loop (l : List Nat) (hl : l.length ≤ 4000000) : ∀ (n a : Nat) (acc facc : List D) (i : Int), i = a → l.length - a < n → a ≤ l.length → acc.length ≤ a → facc.length ≤ 3 * a →
    ∃ E, sWhile wc2__law_lex wb2__law_lex [6, 7, 8, 9] n [some (.str (S l)), some (.lst true acc), some (.lst true facc), some (.int i), some (.int (pl (l.take a)).1), some (.int (pl (l.take a)).2), none, none, none, none] =
      some (.nx, some (.str (S l)) :: some (.lst true (acc ++ toksD l (lex l n a).1)) :: some (.lst true (facc ++ lfsD l (lex l n a).2)) :: E)
  | 0, a, acc, facc, i, _, h, _, _, _ => absurd h (by omega)
  | n + 1, a, acc, facc, i, hi, h, ha, hacc, hfacc => by
    subst hi
    rw [ev_while]
    have hl2 : l.length ≤ 16777216 := by omega
    by_cases h1 : a < l.length
    · have hd := List.getElem?_eq_getElem h1
      have h1' : (a : Int) < l.length := by omega
      have tk : l.take (a + 1) = l.take a ++ [l[a]] := (List.take_append_getElem h1).symm
      by_cases h2 : l[a] = 32 ∨ l[a] = 10
      · obtain ⟨E, ih⟩ := lex_loop l hl n (a + 1) acc facc (a + 1) (by omega) (by omega) h1 (by omega) (by omega)
        have e : lex l (n + 1) a = lex l n (a + 1) := by
          show (match l[a]? with | none => _ | some c => _) = _
          rw [hd]
          show (if _ then _ else _) = _
          rw [if_pos h2]
        rw [e]
        refine ⟨E, ?_⟩
        rw [tk, pl_snoc] at ih
        by_cases h3 : l[a] = 10
        · rw [if_pos h3] at ih
          simp at ih
          simp [e_wc2__law_lex, e_wb2__law_lex, hl2, h1', atI_nat', hd, h2, h3, ih]
        · rw [if_neg h3] at ih
          simp at ih
          have h3b : (l[a] == 10) = false := beq_eq_false_iff_ne.mpr h3
          simp [e_wc2__law_lex, e_wb2__law_lex, hl2, h1', atI_nat', hd, h2, h3b, ih]
      · obtain ⟨t1, t2, r0, t3⟩ := tok_len hd
        have cut : (l.drop a).take (tokAt l a).length = tokAt l a := by
          have e0 : tokAt l a = (l.drop a).take (1 + if cls l[a] = 0 then 0 else more (sg (cls l[a])) l (a + 1)) := by
            unfold tokAt
            rw [hd]
          rw [e0, List.length_take]
          rw [← List.take_eq_take_min]
        have hm : min a l.length = a := by omega
        have six : HT.sIx l.length l.length (some ((a : Int) + ((tokAt l a).length : Nat))) = a + (tokAt l a).length := by
          have := HT.sIx_nat l.length l.length (a + (tokAt l a).length)
          simp at this
          omega
        have le := lex_end l a l[a] hd hl2
        have be := bes l a l[a] hl2 h1
        have htl : (tokAt l a).length ≤ 16777216 := by omega
        have hacc2 : acc.length ≤ 16777215 := by omega
        have hf1 : facc.length ≤ 16777215 := by omega
        have hf2 : facc.length + 1 ≤ 16777215 := by omega
        have e5 : ((pl (l.take a)).2 : Int) + ((a : Int) + ((tokAt l a).length : Nat)) - a = ((pl (l.take a)).2 : Int) + ((tokAt l a).length : Nat) := by omega
        have e : lex l (n + 1) a = ((tokAt l a, a) :: (lex l n (a + (tokAt l a).length)).1, lf l a l[a] (tokAt l a) ++ (lex l n (a + (tokAt l a).length)).2) := by
          show (match l[a]? with | none => _ | some c => _) = _
          rw [hd]
          show (if _ then _ else _) = _
          rw [if_neg h2]
        obtain ⟨E, ih⟩ := lex_loop l hl n (a + (tokAt l a).length) (acc ++ [tokD l (tokAt l a, a)]) (facc ++ lfsD l (lf l a l[a] (tokAt l a))) (a + (tokAt l a).length) (by omega) (by omega) t2 (by simp; omega) (by
          have := lf_len l a l[a] (tokAt l a)
          simp [lfsD]
          omega)
        rw [pl_tok l a l[a] hd h2] at ih
        have cat1 : ∀ (x : List Nat × Nat) (r : List (List Nat × Nat)), acc ++ toksD l (x :: r) = acc ++ [tokD l x] ++ toksD l r := fun x r => by simp [toksD]
        have cat2 : ∀ (x r : List (Nat × Nat)), facc ++ lfsD l (x ++ r) = facc ++ lfsD l x ++ lfsD l r := fun x r => by simp [lfsD]
        rw [e, cat1, cat2]
        refine ⟨E, ?_⟩
        simp [tokD, plD] at ih
        have w0 : wname 0 = [115, 105, 103, 110] := rfl
        have w1 : wname 1 = [110, 117, 109, 101, 114, 97, 108] := rfl
        have w2 : wname 2 = [119, 111, 114, 100] := rfl
        have t0 : (tokAt l a)[0]? = some l[a] := by rw [t3]; rfl
        rcases cls_lt l[a] with ec | ec | ec
        · have hk0 : kn 0 = [115, 105, 103, 110] := rfl
          have hbe : beside l l[a] a = false := by
            cases a with
            | zero => rfl
            | succ a =>
              show (match l[a]? with | some p => _ | none => false) = false
              rw [List.getElem?_eq_getElem (show a < l.length by omega), ec]
              rfl
          rw [ec, hk0] at le be
          rw [hbe] at be
          by_cases ht : tokAt l a = [59]
          · have htb : (tokAt l a == [59]) = true := by rw [ht]; rfl
            have hlf : lf l a l[a] (tokAt l a) = [] := by simp [lf, ec, hbe, ht]
            rw [hlf] at ih ⊢
            simp [lfsD, lfD, plD] at ih
            simp [e_wc2__law_lex, e_wb2__law_lex, -ev_andX, hl2, h1', atI_nat', hd, h2, q_kind, le, be, hm, six, cut, htl, hacc2, hf1, hf2, e5, lfsD, lfD, tokD, plD, ih, ec, hk0, htb]
          · have htb : (tokAt l a == [59]) = false := beq_eq_false_iff_ne.mpr ht
            have hlf : lf l a l[a] (tokAt l a) = [(0, a)] := by simp [lf, ec, hbe, ht]
            rw [hlf] at ih ⊢
            simp [lfsD, lfD, plD, w0] at ih
            simp [e_wc2__law_lex, e_wb2__law_lex, -ev_andX, hl2, h1', atI_nat', hd, h2, q_kind, le, be, hm, six, cut, htl, hacc2, hf1, hf2, e5, lfsD, lfD, tokD, plD, ih, ec, hk0, htb, w0]
        · have hk1 : kn 1 = [119, 111, 114, 100] := rfl
          rw [ec, hk1] at le be
          by_cases h8 : 8 < (tokAt l a).length
          · have h8' : (8 : Int) < (tokAt l a).length := by omega
            have hlf : lf l a l[a] (tokAt l a) = [(2, a)] := by simp [lf, ec, h8]
            rw [hlf] at ih ⊢
            simp [lfsD, lfD, plD, w2] at ih
            simp [e_wc2__law_lex, e_wb2__law_lex, -ev_andX, hl2, h1', atI_nat', hd, h2, q_kind, le, be, hm, six, cut, htl, hacc2, hf1, hf2, e5, lfsD, lfD, tokD, plD, ih, ec, hk1, h8', w2]
          · have h8' : ¬ (8 : Int) < (tokAt l a).length := by omega
            cases hB : beside l l[a] a with
            | true =>
              have hlf : lf l a l[a] (tokAt l a) = [(2, a)] := by simp [lf, ec, hB]
              rw [hlf] at ih ⊢
              rw [hB] at be
              simp [lfsD, lfD, plD, w2] at ih
              simp [e_wc2__law_lex, e_wb2__law_lex, -ev_andX, hl2, h1', atI_nat', hd, h2, q_kind, le, be, hm, six, cut, htl, hacc2, hf1, hf2, e5, lfsD, lfD, tokD, plD, ih, ec, hk1, h8', w2]
            | false =>
              have hlf : lf l a l[a] (tokAt l a) = [] := by simp [lf, ec, h8, hB]
              rw [hlf] at ih ⊢
              rw [hB] at be
              simp [lfsD, lfD, plD] at ih
              simp [e_wc2__law_lex, e_wb2__law_lex, -ev_andX, hl2, h1', atI_nat', hd, h2, q_kind, le, be, hm, six, cut, htl, hacc2, hf1, hf2, e5, lfsD, lfD, tokD, plD, ih, ec, hk1, h8']
        · have hk2 : kn 2 = [110, 117, 109, 101, 114, 97, 108] := rfl
          rw [ec, hk2] at le be
          by_cases h7 : 7 < (tokAt l a).length
          · have h7' : (7 : Int) < (tokAt l a).length := by omega
            cases hB : beside l l[a] a with
            | true =>
              have hlf : lf l a l[a] (tokAt l a) = [(1, a), (2, a)] := by simp [lf, ec, h7, hB]
              rw [hlf] at ih ⊢
              rw [hB] at be
              simp [lfsD, lfD, plD, w1, w2] at ih
              simp [e_wc2__law_lex, e_wb2__law_lex, -ev_andX, hl2, h1', atI_nat', hd, h2, q_kind, le, be, hm, six, cut, htl, hacc2, hf1, hf2, e5, lfsD, lfD, tokD, plD, ih, ec, hk2, h7', w1, w2]
            | false =>
              have hlf : lf l a l[a] (tokAt l a) = [(1, a)] := by simp [lf, ec, h7, hB]
              rw [hlf] at ih ⊢
              rw [hB] at be
              simp [lfsD, lfD, plD, w1] at ih
              simp [e_wc2__law_lex, e_wb2__law_lex, -ev_andX, hl2, h1', atI_nat', hd, h2, q_kind, le, be, hm, six, cut, htl, hacc2, hf1, hf2, e5, lfsD, lfD, tokD, plD, ih, ec, hk2, h7', w1]
          · have h7' : ¬ (7 : Int) < (tokAt l a).length := by omega
            by_cases h0 : l[a] = 48
            · have h0b : (l[a] == 48) = true := by rw [h0]; rfl
              have h0c : (l[a] = 48) = True := eq_true h0
              by_cases ht : tokAt l a = [48]
              · have htb : (tokAt l a == [48]) = true := by rw [ht]; rfl
                cases hB : beside l l[a] a with
                | true =>
                  have hlf : lf l a l[a] (tokAt l a) = [(2, a)] := by simp [lf, ec, ht, hB]
                  rw [hlf] at ih ⊢
                  rw [hB] at be
                  simp [lfsD, lfD, plD, w2] at ih
                  simp [e_wc2__law_lex, e_wb2__law_lex, -ev_andX, hl2, h1', atI_nat', hd, h2, q_kind, le, be, hm, six, cut, htl, hacc2, hf1, hf2, e5, lfsD, lfD, tokD, plD, ih, ec, hk2, h7', t0, h0b, htb, w2]
                | false =>
                  have hlf : lf l a l[a] (tokAt l a) = [] := by simp [lf, ec, ht, hB]
                  rw [hlf] at ih ⊢
                  rw [hB] at be
                  simp [lfsD, lfD, plD] at ih
                  simp [e_wc2__law_lex, e_wb2__law_lex, -ev_andX, hl2, h1', atI_nat', hd, h2, q_kind, le, be, hm, six, cut, htl, hacc2, hf1, hf2, e5, lfsD, lfD, tokD, plD, ih, ec, hk2, h7', t0, h0b, htb]
              · have htb : (tokAt l a == [48]) = false := beq_eq_false_iff_ne.mpr ht
                cases hB : beside l l[a] a with
                | true =>
                  have hlf : lf l a l[a] (tokAt l a) = [(1, a), (2, a)] := by simp [lf, ec, h0c, ht, hB]
                  rw [hlf] at ih ⊢
                  rw [hB] at be
                  simp [lfsD, lfD, plD, w1, w2] at ih
                  simp [e_wc2__law_lex, e_wb2__law_lex, -ev_andX, hl2, h1', atI_nat', hd, h2, q_kind, le, be, hm, six, cut, htl, hacc2, hf1, hf2, e5, lfsD, lfD, tokD, plD, ih, ec, hk2, h7', t0, h0b, htb, w1, w2]
                | false =>
                  have hlf : lf l a l[a] (tokAt l a) = [(1, a)] := by simp [lf, ec, h0c, ht, hB]
                  rw [hlf] at ih ⊢
                  rw [hB] at be
                  simp [lfsD, lfD, plD, w1] at ih
                  simp [e_wc2__law_lex, e_wb2__law_lex, -ev_andX, hl2, h1', atI_nat', hd, h2, q_kind, le, be, hm, six, cut, htl, hacc2, hf1, hf2, e5, lfsD, lfD, tokD, plD, ih, ec, hk2, h7', t0, h0b, htb, w1]
            · have h0b : (l[a] == 48) = false := beq_eq_false_iff_ne.mpr h0
              cases hB : beside l l[a] a with
              | true =>
                have hlf : lf l a l[a] (tokAt l a) = [(2, a)] := by simp [lf, ec, h7, h0, hB]
                rw [hlf] at ih ⊢
                rw [hB] at be
                simp [lfsD, lfD, plD, w2] at ih
                simp [e_wc2__law_lex, e_wb2__law_lex, -ev_andX, hl2, h1', atI_nat', hd, h2, q_kind, le, be, hm, six, cut, htl, hacc2, hf1, hf2, e5, lfsD, lfD, tokD, plD, ih, ec, hk2, h7', t0, h0b, w2]
              | false =>
                have hlf : lf l a l[a] (tokAt l a) = [] := by simp [lf, ec, h7, h0, hB]
                rw [hlf] at ih ⊢
                rw [hB] at be
                simp [lfsD, lfD, plD] at ih
                simp [e_wc2__law_lex, e_wb2__law_lex, -ev_andX, hl2, h1', atI_nat', hd, h2, q_kind, le, be, hm, six, cut, htl, hacc2, hf1, hf2, e5, lfsD, lfD, tokD, plD, ih, ec, hk2, h7', t0, h0b]
    · have hn : l[a]? = none := List.getElem?_eq_none_iff.mpr (by omega)
      have e : lex l (n + 1) a = ([], []) := by
        show (match l[a]? with | none => _ | some c => _) = _
        rw [hn]
      have hz : a = l.length := by omega
      subst hz
      rw [e]
      refine ⟨[some (.int l.length), some (.int (pl l).1), some (.int (pl l).2), none, none, none, none], ?_⟩
      simp [e_wc2__law_lex, hl2, toksD, lfsD]

theorem q_lex (l : List Nat) (hl : l.length ≤ 4000000) : m__law_lex [.str (S l)] = some (.tup true [.lst true (toksD l (lex l fu 0).1), .lst true (lfsD l (lex l fu 0).2)], [some (.str (S l))]) := by
  unfold m__law_lex
  rw [ev_fn]
  obtain ⟨E, q⟩ := lex_loop l hl fu 0 [] [] 0 rfl (by unfold fu; omega) (Nat.zero_le _) (Nat.zero_le _) (Nat.zero_le _)
  have p0 : pl (l.take 0) = (1, 1) := rfl
  rw [p0] at q
  simp at q
  simp [b__law_lex, q]
theorem lfs_frozen (l : List Nat) (fs : List (Nat × Nat)) : frozenL (lfsD l fs) = true := by
  induction fs with
  | nil => rfl
  | cons f fs ih =>
    show frozenL (lfD l f :: lfsD l fs) = true
    simp [lfD, plD, ih]
theorem lex_comp (l : List Nat) (j : Nat) (hj : j ≤ l.length) (f : D) (k : Nat) : ∀ ts : List (List Nat × Nat), InText l ts →
    cL cg1__law_lexed ct1__law_lexed ce1__law_lexed [4] (toksD l ts) [some (.str (S l)), none, some f, some (lfD l (k, j)), none] = some (toksD l (ahead ts j), [some (.str (S l)), none, some f, some (lfD l (k, j)), none])
  | [], _ => rfl
  | t :: ts, h => by
    have ih := lex_comp l j hj f k ts fun u hu => h u (List.mem_cons_of_mem _ hu)
    have ht : t.2 ≤ l.length := h t List.mem_cons_self
    have e := before_at l t.2 j ht hj
    unfold before at e
    show cL cg1__law_lexed ct1__law_lexed ce1__law_lexed [4] (tokD l t :: toksD l ts) _ = _
    rw [ev_cl1]
    by_cases hlt : t.2 < j
    · have ea : toksD l (ahead (t :: ts) j) = tokD l t :: toksD l (ahead ts j) := by simp [ahead, hlt, toksD]
      rw [ea]
      simp [hlt] at e
      simp [plD, lfD] at ih
      simp [e_cg1__law_lexed, e_ct1__law_lexed, e_ce1__law_lexed, tokD, plD, lfD, e, ih]
    · have ea : toksD l (ahead (t :: ts) j) = toksD l (ahead ts j) := by simp [ahead, hlt]
      rw [ea]
      simp [hlt] at e
      simp [plD, lfD] at ih
      simp [e_cg1__law_lexed, e_ct1__law_lexed, e_ce1__law_lexed, tokD, plD, lfD, e, ih]
theorem lex_in (l : List Nat) : ∀ (n a : Nat), InText l (lex l n a).1 ∧ (∀ f ∈ (lex l n a).2, a ≤ f.2 ∧ f.2 < l.length ∧ f.1 ≤ 2) ∧ (lex l n a).2.Pairwise (fun f g => f.2 < g.2 ∨ (f.2 = g.2 ∧ f.1 < g.1)) ∧ ((lex l n a).1).Pairwise (fun t u => t.2 < u.2) ∧ ∀ t ∈ (lex l n a).1, a ≤ t.2
  | 0, a => ⟨fun t h => (by simp [lex] at h), fun f h => by simp [lex] at h, by simp [lex], by simp [lex], fun t h => by simp [lex] at h⟩
  | n + 1, a => by
    unfold lex
    split
    · exact ⟨fun t h => by simp at h, fun f h => by simp at h, List.Pairwise.nil, List.Pairwise.nil, fun t h => by simp at h⟩
    · rename_i c hc
      have ha : a < l.length := (List.getElem?_eq_some_iff.mp hc).1
      split
      · obtain ⟨h1, h2, h3, h4, h5⟩ := lex_in l n (a + 1)
        exact ⟨h1, fun f hf => ⟨by have := (h2 f hf).1; omega, (h2 f hf).2⟩, h3, h4, fun t ht => by have := h5 t ht; omega⟩
      · obtain ⟨h1, h2, h3, h4, h5⟩ := lex_in l n (a + (tokAt l a).length)
        obtain ⟨t1, t2, _⟩ := tok_len hc
        have hlf : ∀ f ∈ lf l a c (tokAt l a), f.2 = a ∧ f.1 ≤ 2 := by
          intro f hf
          unfold lf at hf
          simp only [List.mem_append] at hf
          rcases hf with hf | hf | hf
          · split at hf
            · rw [List.mem_singleton] at hf
              rw [hf]
              exact ⟨rfl, by simp⟩
            · simp at hf
          · split at hf
            · rw [List.mem_singleton] at hf
              rw [hf]
              exact ⟨rfl, by simp⟩
            · simp at hf
          · split at hf
            · rw [List.mem_singleton] at hf
              rw [hf]
              exact ⟨rfl, by simp⟩
            · simp at hf
        refine ⟨fun t h => ?_, fun f hf => ?_, ?_, ?_, fun t h => ?_⟩
        · rcases List.mem_cons.mp h with e | h
          · rw [e]
            exact Nat.le_of_lt ha
          · exact h1 t h
        · rcases List.mem_append.mp hf with hf | hf
          · obtain ⟨e1, e2⟩ := hlf f hf
            exact ⟨by omega, by omega, e2⟩
          · obtain ⟨e1, e2, e3⟩ := h2 f hf
            exact ⟨by omega, e2, e3⟩
        · refine List.pairwise_append.mpr ⟨?_, h3, fun f hf g hg => ?_⟩
          · unfold lf
            split <;> split <;> split <;> simp
          · have e1 := hlf f hf
            have e2 := h2 g hg
            left
            omega
        · refine List.pairwise_cons.mpr ⟨fun t ht => ?_, h4⟩
          have := h5 t ht
          simp only
          omega
        · rcases List.mem_cons.mp h with e | h
          · rw [e]
            exact Nat.le_refl _
          · have := h5 t h
            omega
end K11

/-! k11: the first fault; both agree. -/
namespace K11
open PySem PySem.Spec L2 MP
theorem lfs_plain (l : List Nat) : ∀ fs : List (Nat × Nat), plainL (lfsD l fs) = true
  | [] => rfl
  | f :: fs => by
    show plainL (lfD l f :: lfsD l fs) = true
    simp [plainL, lfD, plD, D.plain, lfs_plain l fs]
theorem wname_ok (k : Nat) : PyData.strOk (S (wname k)) = true := by
  unfold wname
  split <;> decide +kernel
theorem lfs_lay (l : List Nat) : ∀ fs : List (Nat × Nat), PyData.canLayAll0 (toPL (lfsD l fs)) = true ∧ PyData.depthAll (toPL (lfsD l fs)) ≤ 1
  | [] => ⟨rfl, Nat.zero_le _⟩
  | f :: fs => by
    obtain ⟨h1, h2⟩ := lfs_lay l fs
    show PyData.canLayAll0 (toPL (lfD l f :: lfsD l fs)) = true ∧ PyData.depthAll (toPL (lfD l f :: lfsD l fs)) ≤ 1
    simp only [toPL, lfD, plD, List.cons_append, List.nil_append, D.toP, PyData.canLayAll0, PyData.canLay0, PyData.depthAll, PyData.depth, wname_ok, h1]
    exact ⟨by simp, by omega⟩
theorem eq_nil (l : List Nat) (fs : List (Nat × Nat)) : eqE (.lst true (lfsD l fs)) (.lst true []) = some (.bl fs.isEmpty) := by
  obtain ⟨h1, h2⟩ := lfs_lay l fs
  have o1 : okP (.lst true (lfsD l fs)) = true := by
    unfold okP
    rw [D.plain, lfs_plain, Bool.true_and]
    unfold SeqAt.shaped
    rw [Bool.and_eq_true, decide_eq_true_eq]
    simp only [D.toP, PyData.canLay0, PyData.depth]
    exact ⟨h1, by omega⟩
  have o2 : okP (.lst true []) = true := by decide +kernel
  show (if (okP (.lst true (lfsD l fs)) && okP (.lst true [])) = true then some (D.bl (PyData.eqv (D.lst true (lfsD l fs)).toP (D.lst true []).toP)) else none) = _
  rw [o1, o2, Bool.and_self, if_pos rfl]
  congr 2
  cases fs with
  | nil => rfl
  | cons f fs => rfl
/-! the first of them -/
def ltF (l : List Nat) (f g : Nat × Nat) : Bool := ltTD (lfD l f) (lfD l g)
theorem ltF_lt (l : List Nat) (f g : Nat × Nat) (hf : f.2 ≤ l.length) (hg : g.2 ≤ l.length) (h : f.2 < g.2 ∨ (f.2 = g.2 ∧ f.1 < g.1)) : ltF l f g = true := by
  unfold ltF ltTD lfD plD keyTD kLt
  simp only [List.cons_append, List.nil_append, List.map_cons, List.map_nil, itemKD]
  have il : ∀ a b : Int, PyProof.Rows.itemOrd.blt (Sum.inl a) (Sum.inl b) = decide (a < b) := fun _ _ => rfl
  have key : ∀ (a b c a' b' c' : Int) (r r' : List (Int ⊕ List Nat)), (a < a' ∨ (a = a' ∧ (b < b' ∨ (b = b' ∧ c < c')))) → PyProof.Rows.lexLt PyProof.Rows.itemOrd (.inl a :: .inl b :: .inl c :: r) (.inl a' :: .inl b' :: .inl c' :: r') = true := by
    intro a b c a' b' c' r r' h
    rw [PyProof.Rows.lex_true, il, il, decide_eq_true_eq, decide_eq_false_iff_not]
    rcases h with h | ⟨h1, h⟩
    · exact .inl h
    · refine .inr ⟨by omega, ?_⟩
      rw [PyProof.Rows.lex_true, il, il, decide_eq_true_eq, decide_eq_false_iff_not]
      rcases h with h | ⟨h2, h⟩
      · exact .inl h
      · refine .inr ⟨by omega, ?_⟩
        rw [PyProof.Rows.lex_true, il, decide_eq_true_eq]
        exact .inl h
  refine key _ _ _ _ _ _ _ _ ?_
  rcases h with h | ⟨h1, h2⟩
  · have := (before_iff _ _).mp (pl_mono l f.2 g.2 hg h)
    omega
  · rw [h1]
    omega
theorem ltF_swo (l : List Nat) : SrtO.Swo (ltF l) := kLt_swo fun f => keyTD (lfD l f)
theorem paired_map {α β : Type} (f : α → β) : ∀ xs : List α, Paired (fun x y => y = f x) xs (xs.map f)
  | [] => .nil
  | x :: xs => .cons rfl (paired_map f xs)
theorem map_paired {α β : Type} (f : α → β) : ∀ {xs : List α} {ys : List β}, Paired (fun x y => y = f x) xs ys → ys = xs.map f
  | _, _, .nil => rfl
  | _, _, .cons r t => by rw [List.map_cons, r, map_paired f t]
theorem isort_lfs (l : List Nat) (fs : List (Nat × Nat)) : isortB ltTD (lfsD l fs) = lfsD l (isortB (ltF l) fs) :=
  map_paired (lfD l) (isortB_rel (la := ltF l) (lb := ltTD) (fun a b a' b' r1 r2 => by rw [r1, r2]; rfl) (paired_map (lfD l) fs))
/-- the least one stands first -/
theorem first_of (l : List Nat) (fs : List (Nat × Nat)) (m : Nat × Nat) (hm : m ∈ fs) (h : ∀ x ∈ fs, x ≠ m → ltF l m x = true) : ∃ r, isortB (ltF l) fs = m :: r := by
  have p := isortB_perm (lt := ltF l) fs
  have s := isortB_srtd (ltF_swo l) fs
  cases e : isortB (ltF l) fs with
  | nil =>
    rw [e] at p
    have := p.nil_eq
    subst this
    simp at hm
  | cons x r =>
    rw [e] at p s
    by_cases hx : x = m
    · exact ⟨r, by rw [hx]⟩
    · have hx1 : x ∈ fs := p.mem_iff.mp List.mem_cons_self
      have h1 := h x hx1 hx
      have hm1 : m ∈ x :: r := p.mem_iff.mpr hm
      rcases List.mem_cons.mp hm1 with q | q
      · exact absurd q.symm hx
      · have := (List.pairwise_cons.mp s).1 m q
        rw [h1] at this
        cases this

theorem lfs_sort (l : List Nat) (fs : List (Nat × Nat)) : (lfsD l fs).all (okTup (tupShape (lfsD l fs))) = true := by
  cases fs with
  | nil => rfl
  | cons f fs =>
    rw [List.all_eq_true]
    intro d hd
    unfold lfsD at hd
    rw [List.mem_map] at hd
    obtain ⟨g, _, rfl⟩ := hd
    show okTup (isStrAt (plD l f.2 ++ [.int f.1, .str (S (wname f.1))])) (lfD l g) = true
    simp [okTup, lfD, plD, shOk, isStrAt]
/-- the law's answer, in numbers -/
def longF (l : List Nat) : List (Nat × Nat) := if 4000 < l.length then [(3, 4000)] else []
theorem q_lexed0 (l : List Nat) (hl : l.length ≤ 4000000) (h : (lex l fu 0).2 ++ longF l = []) : m__law_lexed [.str (S l)] = some (.tup true [.lst true (toksD l (lex l fu 0).1), .non], [some (.str (S l))]) := by
  unfold m__law_lexed
  rw [ev_fn]
  have q := q_lex l hl
  have hl2 : l.length ≤ 16777216 := by omega
  obtain ⟨h1, h2⟩ := List.append_eq_nil_iff.mp h
  have h4 : ¬ (4000 : Int) < l.length := by
    unfold longF at h2
    split at h2
    · simp at h2
    · omega
  have e0 := eq_nil l []
  simp [lfsD] at e0
  simp [b__law_lexed, q, h1, hl2, h4, lfsD, e0]
theorem lex_len (l : List Nat) : ∀ (n a : Nat), a ≤ l.length → (lex l n a).1.length ≤ l.length - a ∧ (lex l n a).2.length ≤ 3 * (l.length - a)
  | 0, a, _ => ⟨Nat.zero_le _, Nat.zero_le _⟩
  | n + 1, a, h => by
    unfold lex
    split
    · exact ⟨Nat.zero_le _, Nat.zero_le _⟩
    · rename_i c hc
      have ha : a < l.length := (List.getElem?_eq_some_iff.mp hc).1
      split
      · have := lex_len l n (a + 1) ha
        omega
      · obtain ⟨t1, t2, _⟩ := tok_len hc
        have := lex_len l n (a + (tokAt l a).length) t2
        have := lf_len l a c (tokAt l a)
        simp only [List.length_cons, List.length_append]
        omega
theorem q_lexed1 (l : List Nat) (hl : l.length ≤ 4000000) (k j : Nat) (r : List (Nat × Nat)) (h : isortB (ltF l) ((lex l fu 0).2 ++ longF l) = (k, j) :: r) : m__law_lexed [.str (S l)] = some (.tup true [.lst true (toksD l (ahead (lex l fu 0).1 j)), faultD l k j], [some (.str (S l))]) := by
  unfold m__law_lexed
  rw [ev_fn]
  have q := q_lex l hl
  have hl2 : l.length ≤ 16777216 := by omega
  obtain ⟨in1, in2, _, _, _⟩ := lex_in l fu 0
  obtain ⟨len1, len2⟩ := lex_len l fu 0 (Nat.zero_le _)
  have mem : (k, j) ∈ (lex l fu 0).2 ++ longF l := (isortB_perm (lt := ltF l) _).mem_iff.mp (by rw [h]; exact List.mem_cons_self)
  have hj : j ≤ l.length := by
    rcases List.mem_append.mp mem with m | m
    · exact Nat.le_of_lt (in2 _ m).2.1
    · unfold longF at m
      split at m
      · simp at m
        omega
      · simp at m
  have ne : ((lex l fu 0).2 ++ longF l).isEmpty = false := by
    cases e : (lex l fu 0).2 ++ longF l with
    | nil =>
      rw [e] at mem
      simp at mem
    | cons _ _ => rfl
  have e0 := eq_nil l ((lex l fu 0).2 ++ longF l)
  rw [ne] at e0
  have hs : sortTD [.lst true (lfsD l ((lex l fu 0).2 ++ longF l))] = some (.lst true (lfD l (k, j) :: lfsD l r)) := by
    show (if _ then _ else _) = _
    rw [if_pos (lfs_sort l _), isort_lfs, h]
    rfl
  have lc := lex_comp l j hj (.lst true (lfsD l ((lex l fu 0).2 ++ longF l))) k (lex l fu 0).1 in1
  have hc := ahead_len (lex l fu 0).1 j
  have hc2 : (toksD l (ahead (lex l fu 0).1 j)).length ≤ 16777216 := by
    unfold toksD
    rw [List.length_map]
    omega
  have hf1 : (lfsD l (lex l fu 0).2).length ≤ 16777215 := by
    unfold lfsD
    rw [List.length_map]
    omega
  by_cases h4 : 4000 < l.length
  · have h4' : (4000 : Int) < l.length := by omega
    have qp := q_place l 4000 hl2 (by omega)
    have hF : lfsD l (lex l fu 0).2 ++ [D.tup false [.int (pl (l.take 4000)).1, .int (pl (l.take 4000)).2, .int 3, .str (S [108, 111, 110, 103])]] = lfsD l ((lex l fu 0).2 ++ longF l) := by
      unfold longF
      rw [if_pos h4]
      simp [lfsD, lfD, plD, w3]
    simp [lfD, plD] at lc hs
    simp at qp
    simp [b__law_lexed, q, hl2, h4', qp, hf1, hF, e0, hs, toks_frozen, lc, hc2, backF, faultD, plD]
  · have h4' : ¬ (4000 : Int) < l.length := by omega
    have hF : (lex l fu 0).2 ++ longF l = (lex l fu 0).2 := by
      unfold longF
      rw [if_neg h4, List.append_nil]
    rw [hF] at e0 hs lc
    simp [lfD, plD] at lc hs
    simp [b__law_lexed, q, hl2, h4', e0, hs, toks_frozen, lc, hc2, backF, faultD, plD]
end K11

/-! k11: both lexers agree. -/
namespace K11
open PySem PySem.Spec L2 MP
theorem tw_get {p : Nat → Bool} {d : Nat} : ∀ {xs : List Nat} {i : Nat}, xs[i]? = some d → i < (xs.takeWhile p).length → p d = true
  | [], i, h, _ => by simp at h
  | x :: xs, i, h, hi => by
    rw [List.takeWhile_cons] at hi
    split at hi
    · rename_i hx
      cases i with
      | zero =>
        simp at h
        rw [← h]
        exact hx
      | succ i =>
        simp at h hi
        exact tw_get h hi
    · simp at hi
theorem tw_stop {p : Nat → Bool} {d : Nat} : ∀ {xs : List Nat}, xs[(xs.takeWhile p).length]? = some d → p d = false
  | [], h => by simp at h
  | x :: xs, h => by
    rw [List.takeWhile_cons] at h
    by_cases hx : p x = true
    · rw [if_pos hx] at h
      simp at h
      exact tw_stop h
    · rw [if_neg hx] at h
      simp at h
      rw [← h]
      simpa using hx
theorem more_get {g l : List Nat} {e i d : Nat} (h : l[e + i]? = some d) (hi : i < more g l e) : d ∈ g := by
  have h' : (l.drop e)[i]? = some d := by rw [List.getElem?_drop]; exact h
  simpa using tw_get h' hi
theorem more_stop {g l : List Nat} {e d : Nat} (h : l[e + more g l e]? = some d) : d ∉ g := by
  have h' : (l.drop e)[more g l e]? = some d := by rw [List.getElem?_drop]; exact h
  simpa using tw_stop h'
/-- what was ahead of a place says whether a token behind it stands beside one -/
def Cm (l : List Nat) (b : Bool) : Nat → Prop
  | 0 => b = false
  | a + 1 => ∀ p, l[a]? = some p → if p = 32 ∨ p = 10 then b = false else ((b = true ↔ cls p ≠ 0) ∧ (cls p ≠ 0 → ∀ c, l[a + 1]? = some c → cls c ≠ cls p))
theorem cm_beside (l : List Nat) (b : Bool) (a c : Nat) (h : Cm l b a) (hc : l[a]? = some c) (h0 : cls c ≠ 0) : beside l c a = b := by
  cases a with
  | zero =>
    have e : b = false := h
    rw [e]
    rfl
  | succ a =>
    have ha : a < l.length := by
      have := (List.getElem?_eq_some_iff.mp hc).1
      omega
    have hd := List.getElem?_eq_getElem ha
    have h2 := h _ hd
    have eb : beside l c (a + 1) = (!(cls c == 0) && (!(decide (l[a] ∈ [32, 10])) && !(kn (cls l[a]) == wname 0 || kn (cls l[a]) == kn (cls c)))) := by
      show (match l[a]? with | some p => _ | none => false) = _
      rw [hd]
    rw [eb]
    by_cases hp : l[a] = 32 ∨ l[a] = 10
    · rw [if_pos hp] at h2
      rw [h2]
      have : decide (l[a] ∈ [32, 10]) = true := by simpa using hp
      rw [this]
      simp
    · rw [if_neg hp] at h2
      have e1 : decide (l[a] ∈ [32, 10]) = false := by simpa using hp
      have e2 : (cls c == 0) = false := beq_eq_false_iff_ne.mpr h0
      rw [e1, e2]
      by_cases hz : cls l[a] = 0
      · have : b = false := by
          cases b with
          | false => rfl
          | true => exact absurd hz (h2.1.mp rfl)
        rw [this, hz]
        rfl
      · have hb : b = true := h2.1.mpr hz
        have e3 : (kn (cls l[a]) == wname 0) = false := beq_eq_false_iff_ne.mpr fun q => hz (kn_sign.mp q)
        have e4 : (kn (cls l[a]) == kn (cls c)) = false := beq_eq_false_iff_ne.mpr fun q => h2.2 hz c hc (kn_inj.mp q).symm
        rw [hb, e3, e4]
        rfl
theorem lf_head0 (l : List Nat) (b : Bool) (a c : Nat) (t : List Nat) (hb : cls c ≠ 0 → beside l c a = b) (h0 : cls c = 0 → beside l c a = false) (e48 : c = 48 → (t ≠ [48] ↔ 1 < t.length)) (e59 : cls c ≠ 0 → t ≠ [59]) :
    (lf l a c t).head? = (if cls c = 0 ∧ t ≠ [59] then some 0 else if cls c = 2 ∧ (7 < t.length ∨ (1 < t.length ∧ c = 48)) then some 1 else if (cls c = 1 ∧ 8 < t.length) ∨ (b = true ∧ t ≠ [59]) then some 2 else none).map fun k => (k, a) := by
  rcases cls_lt c with e | e | e
  · have hb0 := h0 e
    by_cases ht : t = [59]
    · simp [lf, e, hb0, ht]
    · simp [lf, e, hb0, ht]
  · have hb1 := hb (by omega)
    have h59 := e59 (by omega)
    by_cases h8 : 8 < t.length
    · simp [lf, e, h8]
    · cases b <;> simp [lf, e, hb1, h8, h59]
  · have hb1 := hb (by omega)
    have h59 := e59 (by omega)
    by_cases h7 : 7 < t.length
    · simp [lf, e, h7]
    · by_cases hc : c = 48
      · have := e48 hc
        by_cases h1 : 1 < t.length
        · have h2 := this.mpr h1
          simp [lf, e, h7, h1, h2, eq_true hc]
        · have h2 : t = [48] := Classical.byContradiction fun z => h1 (this.mp z)
          cases b <;> simp [lf, e, hb1, h2]
      · cases b <;> simp [lf, e, hb1, h7, hc, h59]
theorem lf_head (l : List Nat) (b : Bool) (a c : Nat) (r : List Nat) (hb : cls c ≠ 0 → beside l c a = b) (h0 : cls c = 0 → beside l c a = false) : (lf l a c (c :: r)).head? = (wrongAt (c :: r) b).map fun k => (k, a) := by
  refine lf_head0 l b a c (c :: r) hb h0 (fun e => ?_) fun e z => ?_
  · subst e
    cases r with
    | nil => simp
    | cons d r => simp
  · have : c = 59 := by simpa using congrArg List.head? z
    rw [this] at e
    exact e (by decide)
theorem beside0 (l : List Nat) (a c : Nat) (hc : l[a]? = some c) (h : cls c = 0) : beside l c a = false := by
  cases a with
  | zero => rfl
  | succ a =>
    have ha := (List.getElem?_eq_some_iff.mp hc).1
    show (match l[a]? with | some p => _ | none => false) = false
    rw [List.getElem?_eq_getElem (show a < l.length by omega), h]
    rfl
theorem cm_next (l : List Nat) (b : Bool) (a c : Nat) (hc : l[a]? = some c) (hn : ¬ (c = 32 ∨ c = 10)) (hw : wrongAt (tokAt l a) b = none) : Cm l (!(tokAt l a == [59])) (a + (tokAt l a).length) := by
  obtain ⟨h1, h2⟩ := List.getElem?_eq_some_iff.mp hc
  have e : tokAt l a = (l.drop a).take (1 + if cls c = 0 then 0 else more (sg (cls c)) l (a + 1)) := by
    unfold tokAt
    rw [hc]
  obtain ⟨t1, t2, r0, t3⟩ := tok_len hc
  by_cases h0 : cls c = 0
  · have el : (tokAt l a).length = 1 := by
      rw [e, if_pos h0, List.length_take, List.length_drop]
      omega
    have hr : r0 = [] := by
      rw [t3] at el
      simpa using el
    subst hr
    have hc59 : c = 59 := by
      refine Classical.byContradiction fun z => ?_
      rw [t3] at hw
      have : wrongAt [c] b = some 0 := by
        have : ([c] : List Nat) ≠ [59] := fun q => z (by simpa using q)
        simp only [wrongAt]
        rw [if_pos ⟨h0, this⟩]
      rw [this] at hw
      cases hw
    subst hc59
    rw [el, t3]
    show ∀ p, l[a]? = some p → if p = 32 ∨ p = 10 then _ else _
    intro p hp
    rw [hc] at hp
    cases hp
    exact ⟨by decide, fun q => absurd (by decide) q⟩
  · have el : (tokAt l a).length = 1 + more (sg (cls c)) l (a + 1) := by
      have := more_le (sg (cls c)) l (a + 1) h1
      rw [e, if_neg h0, List.length_take, List.length_drop]
      omega
    have h59 : (tokAt l a == [59]) = false := by
      rw [t3]
      refine beq_eq_false_iff_ne.mpr fun z => ?_
      have : c = 59 := by simpa using congrArg List.head? z
      rw [this] at h0
      exact h0 (by decide)
    rw [h59, el]
    have ea : a + (1 + more (sg (cls c)) l (a + 1)) = (a + more (sg (cls c)) l (a + 1)) + 1 := by omega
    rw [ea]
    intro p hp
    have hp' : cls p = cls c := by
      by_cases hm : more (sg (cls c)) l (a + 1) = 0
      · rw [hm] at hp
        rw [Nat.add_zero, hc] at hp
        cases hp
        rfl
      · have : l[(a + 1) + (more (sg (cls c)) l (a + 1) - 1)]? = some p := by
          rw [show (a + 1) + (more (sg (cls c)) l (a + 1) - 1) = a + more (sg (cls c)) l (a + 1) by omega]
          exact hp
        exact (mem_sg p c h0).mp (more_get this (by omega))
    have hpb : ¬ (p = 32 ∨ p = 10) := fun z => by
      rcases z with z | z <;> subst z <;> exact h0 (hp'.symm.trans (by decide))
    rw [if_neg hpb]
    refine ⟨by rw [hp']; simp [h0], fun _ d hd hdc => ?_⟩
    have : l[(a + 1) + more (sg (cls c)) l (a + 1)]? = some d := by
      rw [show (a + 1) + more (sg (cls c)) l (a + 1) = a + more (sg (cls c)) l (a + 1) + 1 by omega]
      exact hd
    exact more_stop this ((mem_sg d c h0).mpr (hdc.trans hp'))
theorem scan_lex (l : List Nat) : ∀ (n a : Nat) (b : Bool), Cm l b a → ((lex l n a).2 = [] → scan l n a b = ((lex l n a).1, none)) ∧ ∀ k j r, (lex l n a).2 = (k, j) :: r → scan l n a b = (ahead (lex l n a).1 j, some (k, j))
  | 0, a, b, _ => ⟨fun _ => rfl, fun k j r h => by simp [lex] at h⟩
  | n + 1, a, b, cm => by
    cases hc : l[a]? with
    | none =>
      have e1 : lex l (n + 1) a = ([], []) := by
        show (match l[a]? with | none => _ | some c => _) = _
        rw [hc]
      have e2 : scan l (n + 1) a b = ([], none) := by
        show (match l[a]? with | none => _ | some c => _) = _
        rw [hc]
      rw [e1, e2]
      exact ⟨fun _ => rfl, fun k j r h => by simp at h⟩
    | some c =>
      by_cases hn : c = 32 ∨ c = 10
      · have e1 : lex l (n + 1) a = lex l n (a + 1) := by
          show (match l[a]? with | none => _ | some c => _) = _
          rw [hc]
          show (if _ then _ else _) = _
          rw [if_pos hn]
        have e2 : scan l (n + 1) a b = scan l n (a + 1) false := by
          show (match l[a]? with | none => _ | some c => _) = _
          rw [hc]
          show (if _ then _ else _) = _
          rw [if_pos hn]
        rw [e1, e2]
        refine scan_lex l n (a + 1) false fun p hp => ?_
        rw [hc] at hp
        cases hp
        rw [if_pos hn]
      · have e1 : lex l (n + 1) a = ((tokAt l a, a) :: (lex l n (a + (tokAt l a).length)).1, lf l a c (tokAt l a) ++ (lex l n (a + (tokAt l a).length)).2) := by
          show (match l[a]? with | none => _ | some c => _) = _
          rw [hc]
          show (if _ then _ else _) = _
          rw [if_neg hn]
        have e2 : scan l (n + 1) a b = match wrongAt (tokAt l a) b with
            | some k => ([], some (k, a))
            | none => ((tokAt l a, a) :: (scan l n (a + (tokAt l a).length) (!(tokAt l a == [59]))).1, (scan l n (a + (tokAt l a).length) (!(tokAt l a == [59]))).2) := by
          show (match l[a]? with | none => _ | some c => _) = _
          rw [hc]
          show (if _ then _ else _) = _
          rw [if_neg hn]
          try (cases wrongAt (tokAt l a) b <;> rfl)
        obtain ⟨t1, t2, r0, t3⟩ := tok_len hc
        have hh : (lf l a c (tokAt l a)).head? = (wrongAt (tokAt l a) b).map fun k => (k, a) := by
          rw [t3]
          exact lf_head l b a c r0 (fun q => cm_beside l b a c cm hc q) fun q => beside0 l a c hc q
        obtain ⟨i1, i2, i3, i4, i5⟩ := lex_in l n (a + (tokAt l a).length)
        rw [e1, e2]
        cases hw : wrongAt (tokAt l a) b with
        | some k =>
          rw [hw] at hh
          obtain ⟨r, hr⟩ : ∃ r, lf l a c (tokAt l a) = (k, a) :: r := by
            cases q : lf l a c (tokAt l a) with
            | nil =>
              rw [q] at hh
              simp at hh
            | cons x r =>
              rw [q] at hh
              simp at hh
              exact ⟨r, by rw [hh]⟩
          rw [hr]
          refine ⟨fun z => by simp at z, fun k' j r' z => ?_⟩
          simp at z
          obtain ⟨⟨z1, z2⟩, _⟩ := z
          subst z1
          subst z2
          have : ahead ((tokAt l a, a) :: (lex l n (a + (tokAt l a).length)).1) a = [] := by
            unfold ahead
            rw [List.filter_eq_nil_iff]
            intro t ht
            rcases List.mem_cons.mp ht with q | ht
            · rw [q]
              simp
            · have := i5 t ht
              simp
              omega
          rw [this]
        | none =>
          rw [hw] at hh
          have hr : lf l a c (tokAt l a) = [] := by
            cases q : lf l a c (tokAt l a) with
            | nil => rfl
            | cons x r =>
              rw [q] at hh
              simp at hh
          rw [hr, List.nil_append]
          obtain ⟨ih1, ih2⟩ := scan_lex l n (a + (tokAt l a).length) (!(tokAt l a == [59])) (cm_next l b a c hc hn hw)
          refine ⟨fun z => ?_, fun k j r z => ?_⟩
          · rw [ih1 z]
          · have hj : a < j := by
              have := (i2 (k, j) (by rw [z]; exact List.mem_cons_self)).1
              simp only at this
              omega
            rw [ih2 k j r z]
            simp only [ahead, List.filter_cons, decide_eq_true_eq]
            rw [if_pos hj]

theorem ahead_ahead (ts : List (List Nat × Nat)) (i j : Nat) (h : i ≤ j) : ahead (ahead ts j) i = ahead ts i := by
  unfold ahead
  rw [List.filter_filter]
  refine List.filter_congr fun t _ => ?_
  by_cases h1 : t.2 < i
  · have : t.2 < j := by omega
    simp [h1, this]
  · simp [h1]
theorem agree0 (l : List Nat) (h : (lex l fu 0).2 ++ longF l = []) : lookR l = ((lex l fu 0).1, none) := by
  obtain ⟨h1, h2⟩ := List.append_eq_nil_iff.mp h
  have h4 : ¬ 4000 < l.length := by
    unfold longF at h2
    split at h2
    · simp at h2
    · assumption
  unfold lookR
  rw [if_neg h4]
  exact (scan_lex l fu 0 false rfl).1 h1
theorem agree1 (l : List Nat) (k j : Nat) (r : List (Nat × Nat)) (h : isortB (ltF l) ((lex l fu 0).2 ++ longF l) = (k, j) :: r) : lookR l = (ahead (lex l fu 0).1 j, some (k, j)) := by
  obtain ⟨s1, s2⟩ := scan_lex l fu 0 false rfl
  obtain ⟨_, i2, i3, _, _⟩ := lex_in l fu 0
  have head : ∀ m : Nat × Nat, m ∈ (lex l fu 0).2 ++ longF l → (∀ x ∈ (lex l fu 0).2 ++ longF l, x ≠ m → ltF l m x = true) → (k, j) = m := fun m hm hx => by
    obtain ⟨r', q⟩ := first_of l _ m hm hx
    rw [h] at q
    exact (List.cons.inj q).1
  cases hf : (lex l fu 0).2 with
  | nil =>
    rw [hf] at head h
    have h4 : 4000 < l.length := by
      refine Classical.byContradiction fun z => ?_
      unfold longF at h
      rw [if_neg z] at h
      simp [isortB] at h
    have e : (k, j) = (3, 4000) := head (3, 4000) (by simp [longF, h4]) fun x hx hne => by
      simp [longF, h4] at hx
      exact absurd hx hne
    cases e
    unfold lookR
    rw [if_pos h4, s1 hf]
  | cons f0 r0 =>
    obtain ⟨k0, j0⟩ := f0
    have sc := s2 k0 j0 r0 hf
    rw [hf] at head i2 i3
    have hj0 : j0 < l.length := (i2 (k0, j0) List.mem_cons_self).2.1
    have hk0 : k0 ≤ 2 := (i2 (k0, j0) List.mem_cons_self).2.2
    have rest : ∀ x ∈ r0, ltF l (k0, j0) x = true := fun x hx => by
      have h1 := (List.pairwise_cons.mp i3).1 x hx
      have h2 := (i2 x (List.mem_cons_of_mem _ hx)).2.1
      exact ltF_lt l (k0, j0) x (Nat.le_of_lt hj0) (Nat.le_of_lt h2) h1
    by_cases h4 : 4000 < l.length
    · by_cases hj : 4000 < j0
      · have e : (k, j) = (3, 4000) := head (3, 4000) (by simp [longF, h4]) fun x hx hne => by
          rcases List.mem_append.mp hx with hx | hx
          · have h2 := (i2 x hx).2.1
            refine ltF_lt l (3, 4000) x (Nat.le_of_lt h4) (Nat.le_of_lt h2) (.inl ?_)
            show 4000 < x.2
            rcases List.mem_cons.mp hx with q | hx
            · rw [q]
              exact hj
            · have := (List.pairwise_cons.mp i3).1 x hx
              simp only at this
              omega
          · simp [longF, h4] at hx
            exact absurd hx hne
        cases e
        unfold lookR
        rw [if_pos h4, sc]
        simp only
        rw [if_pos hj, ahead_ahead _ _ _ (Nat.le_of_lt hj)]
      · have e : (k, j) = (k0, j0) := head (k0, j0) (by simp) fun x hx hne => by
          rcases List.mem_append.mp hx with hx | hx
          · rcases List.mem_cons.mp hx with q | hx
            · exact absurd q hne
            · exact rest x hx
          · simp [longF, h4] at hx
            rw [hx]
            refine ltF_lt l (k0, j0) (3, 4000) (Nat.le_of_lt hj0) (Nat.le_of_lt h4) ?_
            show j0 < 4000 ∨ (j0 = 4000 ∧ k0 < 3)
            omega
        cases e
        unfold lookR
        rw [if_pos h4, sc]
        simp only
        rw [if_neg hj]
    · have e : (k, j) = (k0, j0) := head (k0, j0) (by simp) fun x hx hne => by
        rcases List.mem_append.mp hx with hx | hx
        · rcases List.mem_cons.mp hx with q | hx
          · exact absurd q hne
          · exact rest x hx
        · simp [longF, h4] at hx
      cases e
      unfold lookR
      rw [if_neg h4, sc]
/-- the law's own answer is the program's -/
theorem q_lexed (l : List Nat) (hl : l.length ≤ 4000000) : m__law_lexed [.str (S l)] = some (.tup true [.lst true (toksD l (lookR l).1), optF l (lookR l).2], [some (.str (S l))]) := by
  cases h : isortB (ltF l) ((lex l fu 0).2 ++ longF l) with
  | nil =>
    have h0 : (lex l fu 0).2 ++ longF l = [] := by
      have := isortB_perm (lt := ltF l) ((lex l fu 0).2 ++ longF l)
      rw [h] at this
      exact this.nil_eq.symm
    rw [agree0 l h0]
    exact q_lexed0 l hl h0
  | cons x r =>
    obtain ⟨k, j⟩ := x
    rw [agree1 l k j r h]
    exact q_lexed1 l hl k j r h
end K11

/-! k11: what stands behind, and what repr needs. -/
namespace K11
open PySem PySem.Spec L2 MP
theorem tw_app (p : Nat → Bool) (x : Nat) (s : List Nat) (hx : p x = false) : ∀ xs : List Nat, (xs ++ x :: s).takeWhile p = xs.takeWhile p
  | [] => by simp [List.takeWhile_cons, hx]
  | y :: xs => by
    rw [List.cons_append, List.takeWhile_cons, List.takeWhile_cons, tw_app p x s hx xs]
theorem more_app (g l s : List Nat) (x e : Nat) (hx : x ∉ g) (he : e ≤ l.length) : more g (l ++ x :: s) e = more g l e := by
  unfold more
  rw [List.drop_append_of_le_length he, tw_app _ x s (by simpa using hx)]
theorem blank_sg {x : Nat} (hx : x = 32 ∨ x = 10) (c : Nat) : x ∉ sg (cls c) := by
  rcases cls_lt c with e | e | e <;> rw [e] <;> rcases hx with h | h <;> subst h <;> decide
theorem tok_app (l s : List Nat) (x a : Nat) (hx : x = 32 ∨ x = 10) (ha : a < l.length) : tokAt (l ++ x :: s) a = tokAt l a := by
  have hd := List.getElem?_eq_getElem ha
  have hd2 : (l ++ x :: s)[a]? = some l[a] := by rw [List.getElem?_append_left ha, hd]
  have e : ∀ (m : List Nat) (c : Nat), m[a]? = some c → tokAt m a = (m.drop a).take (1 + if cls c = 0 then 0 else more (sg (cls c)) m (a + 1)) := fun m c h => by
    unfold tokAt
    rw [h]
  rw [e l _ hd, e (l ++ x :: s) _ hd2, more_app _ l s x (a + 1) (blank_sg hx _) ha, List.drop_append_of_le_length (Nat.le_of_lt ha)]
  refine List.take_append_of_le_length ?_
  rw [List.length_drop]
  split
  · omega
  · have := more_le (sg (cls l[a])) l (a + 1) ha
    omega
theorem scan_app (l s : List Nat) (x : Nat) (hx : x = 32 ∨ x = 10) : ∀ (n a : Nat) (b : Bool) (f : Nat × Nat), a ≤ l.length → (scan l n a b).2 = some f → scan (l ++ x :: s) n a b = scan l n a b
  | 0, a, b, f, _, h => by simp [scan] at h
  | n + 1, a, b, f, ha, h => by
    by_cases h1 : a < l.length
    · have hd := List.getElem?_eq_getElem h1
      have hd2 : (l ++ x :: s)[a]? = some l[a] := by rw [List.getElem?_append_left h1, hd]
      have e : ∀ (m : List Nat), m[a]? = some l[a] → scan m (n + 1) a b = if l[a] = 32 ∨ l[a] = 10 then scan m n (a + 1) false else match wrongAt (tokAt m a) b with
          | some k => ([], some (k, a))
          | none => ((tokAt m a, a) :: (scan m n (a + (tokAt m a).length) (!(tokAt m a == [59]))).1, (scan m n (a + (tokAt m a).length) (!(tokAt m a == [59]))).2) := fun m hm => by
        show (match m[a]? with | none => _ | some c => _) = _
        rw [hm]
        try (show (if _ then _ else _) = _; split <;> first | rfl | (cases wrongAt (tokAt m a) b <;> rfl))
      rw [e l hd] at h ⊢
      rw [e _ hd2, tok_app l s x a hx h1]
      split
      · rename_i hb
        rw [if_pos hb] at h
        exact scan_app l s x hx n (a + 1) false f h1 h
      · rename_i hb
        rw [if_neg hb] at h
        cases hw : wrongAt (tokAt l a) b with
        | some k => rfl
        | none =>
          rw [hw] at h
          simp only at h ⊢
          obtain ⟨_, t2, _⟩ := tok_len hd
          rw [scan_app l s x hx n _ _ f t2 h]
    · have hn : l[a]? = none := List.getElem?_eq_none_iff.mpr (by omega)
      have e : scan l (n + 1) a b = ([], none) := by
        show (match l[a]? with | none => _ | some c => _) = _
        rw [hn]
      rw [e] at h
      cases h
theorem look_app (l s : List Nat) (x : Nat) (hx : x = 32 ∨ x = 10) (f : Nat × Nat) (h : (lookR l).2 = some f) (hl : (l ++ x :: s).length < 4000) : lookR (l ++ x :: s) = lookR l := by
  have h1 : ¬ 4000 < (l ++ x :: s).length := by omega
  have h2 : ¬ 4000 < l.length := by
    rw [List.length_append] at hl
    omega
  unfold lookR at h ⊢
  rw [if_neg h2] at h ⊢
  rw [if_neg h1]
  exact scan_app l s x hx fu 0 false f (Nat.zero_le _) h
theorem look_in (l : List Nat) : InText l (lookR l).1 ∧ ∀ k j, (lookR l).2 = some (k, j) → j ≤ l.length := by
  obtain ⟨h1, h2⟩ := scan_in l fu 0 false
  have ha : InText l (ahead (scan l fu 0 false).1 4000) := fun t ht => h1 t (List.mem_filter.mp ht).1
  unfold lookR
  split
  · rename_i h4
    split
    · exact ⟨ha, fun k j h => by simp at h; omega⟩
    · split
      · exact ⟨ha, fun k j h => by simp at h; omega⟩
      · exact ⟨h1, fun k j h => Nat.le_of_lt (h2 k j h)⟩
  · exact ⟨h1, fun k j h => Nat.le_of_lt (h2 k j h)⟩
theorem plD_app (l s : List Nat) (a : Nat) (ha : a ≤ l.length) : plD (l ++ s) a = plD l a := by
  unfold plD
  rw [List.take_append_of_le_length ha]
theorem toksD_app (l s : List Nat) (ts : List (List Nat × Nat)) (h : InText l ts) : toksD (l ++ s) ts = toksD l ts := by
  unfold toksD
  refine List.map_congr_left fun t ht => ?_
  unfold tokD
  rw [plD_app l s t.2 (h t ht)]
/-! sizes -/
theorem pl_le (l : List Nat) : (pl l).1 ≤ l.length + 1 ∧ (pl l).2 ≤ l.length + 1 := by
  refine snocInd (P := fun l => (pl l).1 ≤ l.length + 1 ∧ (pl l).2 ≤ l.length + 1) ⟨Nat.le_refl _, Nat.le_refl _⟩ (fun l a ih => ?_) l
  rw [pl_snoc, List.length_append]
  split <;> simp only [List.length_singleton] <;> omega
def wt (ts : List (List Nat × Nat)) : Nat := (ts.map fun t => t.1.length + 5).sum
theorem scan_wt (l : List Nat) : ∀ (n a : Nat) (b : Bool), a ≤ l.length → wt (scan l n a b).1 ≤ 6 * (l.length - a)
  | 0, a, b, _ => Nat.zero_le _
  | n + 1, a, b, h => by
    unfold scan
    split
    · exact Nat.zero_le _
    · rename_i c hc
      have ha : a < l.length := (List.getElem?_eq_some_iff.mp hc).1
      split
      · have := scan_wt l n (a + 1) false ha
        omega
      · split
        · exact Nat.zero_le _
        · obtain ⟨t1, t2, _⟩ := tok_len hc
          have := scan_wt l n (a + (tokAt l a).length) (!(tokAt l a == [59])) t2
          unfold wt at this ⊢
          simp only [List.map_cons, List.sum_cons]
          omega
theorem wt_ahead (ts : List (List Nat × Nat)) (j : Nat) : wt (ahead ts j) ≤ wt ts := by
  induction ts with
  | nil => exact Nat.le_refl _
  | cons t ts ih =>
    unfold ahead at ih ⊢
    rw [List.filter_cons]
    unfold wt at ih ⊢
    split <;> simp only [List.map_cons, List.sum_cons] <;> omega
theorem look_wt (l : List Nat) : wt (lookR l).1 ≤ 6 * l.length := by
  have h := scan_wt l fu 0 false (Nat.zero_le _)
  have h2 := wt_ahead (scan l fu 0 false).1 4000
  unfold lookR
  split
  · split
    · simp only
      omega
    · split
      · simp only
        omega
      · omega
  · omega
end K11

/-! What repr needs of plain data: small leaves, small depth, small bulk. -/
namespace MP
open PySem PySem.Spec L2
structure Fine (n w : Nat) (d : D) : Prop where
  plain : d.plain = true
  show_ : d.toP.showable = true
  depth : d.toP.depth ≤ n
  leaves : d.toP.leavesShort 13 = true
  bulk : d.toP.bulk ≤ w
structure FineL (n w : Nat) (ds : List D) : Prop where
  plain : plainL ds = true
  show_ : PyData.showableAll (toPL ds) = true
  depth : PyData.depthAll (toPL ds) ≤ n
  leaves : PyData.leavesShortAll 13 (toPL ds) = true
  bulk : PyData.bulkAll (toPL ds) ≤ w
theorem Fine.mono {n n' w w' : Nat} {d : D} (h : Fine n w d) (hn : n ≤ n') (hw : w ≤ w') : Fine n' w' d := ⟨h.plain, h.show_, Nat.le_trans h.depth hn, h.leaves, Nat.le_trans h.bulk hw⟩
theorem FineL.mono {n n' w w' : Nat} {d : List D} (h : FineL n w d) (hn : n ≤ n') (hw : w ≤ w') : FineL n' w' d := ⟨h.plain, h.show_, Nat.le_trans h.depth hn, h.leaves, Nat.le_trans h.bulk hw⟩
theorem Fine.non {n w : Nat} : Fine n w .non := ⟨rfl, rfl, Nat.zero_le _, rfl, Nat.zero_le _⟩
theorem Fine.bl {n w : Nat} (b : Bool) : Fine n w (.bl b) := ⟨rfl, rfl, Nat.zero_le _, rfl, Nat.zero_le _⟩
theorem Fine.int {n w : Nat} (i : Int) (h : i.natAbs < 10 ^ 12) : Fine n w (.int i) := by
  refine ⟨rfl, ?_, Nat.zero_le _, ?_, Nat.zero_le _⟩
  · show decide (i.natAbs.log2 < 1920) = true
    rw [decide_eq_true_eq]
    by_cases h0 : i.natAbs = 0
    · rw [h0]
      decide
    · rw [Nat.log2_lt h0]
      exact Nat.lt_trans h (by decide +kernel)
  · show decide ((PyData.shown (.int i)).length ≤ 13) = true
    rw [decide_eq_true_eq]
    exact PyData.shown_int_le h
theorem Fine.str {n : Nat} (l : List Nat) (h : ∀ c ∈ l, c < 16 ^ 8) : Fine n l.length (.str (S l)) := by
  refine ⟨rfl, rfl, Nat.zero_le _, ?_, ?_⟩
  · show (S l).cps.toList.all (fun c => decide (c < 16 ^ 8)) = true
    rw [S_list, List.all_eq_true]
    exact fun c hc => decide_eq_true (h c hc)
  · show (S l).cps.size ≤ l.length
    simp [S]
theorem FineL.nil {n w : Nat} : FineL n w [] := ⟨rfl, rfl, Nat.zero_le _, rfl, Nat.zero_le _⟩
theorem FineL.cons {n w w' : Nat} {d : D} {ds : List D} (h : Fine n w d) (t : FineL n w' ds) : FineL n (w + 1 + w') (d :: ds) := by
  refine ⟨?_, ?_, ?_, ?_, ?_⟩
  · rw [plainL, h.plain, t.plain]
    rfl
  · rw [toPL, PyData.showableAll, h.show_, t.show_]
    rfl
  · rw [toPL, PyData.depthAll]
    have := h.depth
    have := t.depth
    omega
  · rw [toPL, PyData.leavesShortAll, h.leaves, t.leaves]
    rfl
  · rw [toPL, PyData.bulkAll]
    have := h.bulk
    have := t.bulk
    omega
theorem Fine.lst {n w : Nat} {o : Bool} {ds : List D} (h : FineL n w ds) : Fine (n + 1) w (.lst o ds) := by
  refine ⟨?_, ?_, ?_, ?_, ?_⟩
  · rw [D.plain]
    exact h.plain
  · rw [D.toP, PyData.showable]
    exact h.show_
  · rw [D.toP, PyData.depth]
    have := h.depth
    omega
  · rw [D.toP, PyData.leavesShort]
    exact h.leaves
  · rw [D.toP, PyData.bulk]
    exact h.bulk
theorem Fine.tup {n w : Nat} {o : Bool} {ds : List D} (h : FineL n w ds) : Fine (n + 1) w (.tup o ds) := by
  refine ⟨?_, ?_, ?_, ?_, ?_⟩
  · rw [D.plain]
    exact h.plain
  · rw [D.toP, PyData.showable]
    exact h.show_
  · rw [D.toP, PyData.depth]
    have := h.depth
    omega
  · rw [D.toP, PyData.leavesShort]
    exact h.leaves
  · rw [D.toP, PyData.bulk]
    exact h.bulk
theorem Fine.ok {d : D} {w : Nat} (h : Fine 60 w d) (hw : w ≤ 1118000) : okShow d = true := by
  unfold okShow
  have := PyData.shown_le_bulk 13 (by decide) d.toP h.leaves
  have hb := h.bulk
  have hs : d.toP.shown.length ≤ sizeLine := Nat.le_trans this (by show _ ≤ 16777216; omega)
  rw [h.plain, h.show_, decide_eq_true h.depth, decide_eq_true hs]
  rfl
end MP

/-! k11: the draws. -/
namespace K11
open PySem PySem.Spec L2 MP
/-- what a pot may hold -/
def Pt (x y : Int) : Prop := 0 ≤ x ∧ 0 ≤ y ∧ y < 4294967296
def dB (y : Int) : Int := (y * 40692 + 6247) % 2147483587
def dV (x y m : Int) : Int := if 0 < x then x % m else (dB y * dB y) % 2147483563 / 23 % m
def dX (x y m : Int) : Int := if 0 < x then x / m else x
def dY (x y m : Int) : Int := if 0 < x then y else dB y
theorem dB_ok (y : Int) : 0 ≤ dB y ∧ dB y < 2147483587 := ⟨Int.emod_nonneg _ (by decide), Int.emod_lt_of_pos _ (by decide)⟩
theorem pt_next {x y m : Int} (h : Pt x y) (hm : 0 < m) : Pt (dX x y m) (dY x y m) := by
  obtain ⟨h1, h2, h3⟩ := h
  have hb := dB_ok y
  unfold dX dY
  split
  · exact ⟨Int.ediv_nonneg h1 (Int.le_of_lt hm), h2, h3⟩
  · exact ⟨h1, hb.1, by omega⟩
theorem dV_ok (x y m : Int) (hm : 0 < m) : 0 ≤ dV x y m ∧ dV x y m < m := by
  unfold dV
  split
  · exact ⟨Int.emod_nonneg _ (by omega), Int.emod_lt_of_pos _ hm⟩
  · exact ⟨Int.emod_nonneg _ (by omega), Int.emod_lt_of_pos _ hm⟩
theorem q_draw (x y m : Int) (h : Pt x y) (hm : 0 < m) (hm2 : m < 1073741824) : m__law_draw [.lst true [.int x, .int y], .int m] = some (.int (dV x y m), [some (.lst true [.int (dX x y m), .int (dY x y m)]), some (.int m)]) := by
  obtain ⟨h1, h2, h3⟩ := h
  have hb := dB_ok y
  unfold m__law_draw
  rw [ev_fn]
  by_cases hx : 0 < x
  · simp [b__law_draw, hx, hm, hm2, dV, dX, dY]
  · have e1 : in64 y = true := by
      unfold in64
      rw [decide_eq_true_eq]
      omega
    have e2 : in64 ((y * 40692 + 6247) % 2147483587) = true := by
      have := dB_ok y
      unfold dB at this
      unfold in64
      rw [decide_eq_true_eq]
      omega
    simp [b__law_draw, hx, hm, hm2, dV, dX, dY, e1, e2, dB]
theorem q_pick (x y : Int) (xs : List D) (h : Pt x y) (h0 : 0 < xs.length) (hl : xs.length < 1000) (hf : frozenL xs = true) :
    ∃ d ∈ xs, m__law_pick [.lst true [.int x, .int y], .lst true xs] = some (d, [some (.lst true [.int (dX x y xs.length), .int (dY x y xs.length)]), some (.lst true xs)]) := by
  have hv := dV_ok x y xs.length (by omega)
  obtain ⟨j, hj⟩ : ∃ j : Nat, dV x y xs.length = j := ⟨(dV x y xs.length).toNat, by omega⟩
  have hj2 : j < xs.length := by omega
  have hd := List.getElem?_eq_getElem hj2
  have fr : xs[j].frozen = true := by
    rw [frozenL_all, List.all_eq_true] at hf
    exact hf _ (List.getElem_mem hj2)
  refine ⟨xs[j], List.getElem_mem hj2, ?_⟩
  unfold m__law_pick
  rw [ev_fn]
  have qd := q_draw x y xs.length h (by omega) (by omega)
  rw [hj] at qd
  simp [b__law_pick, qd, atI_nat', hd, fr]
theorem e3 : powOk 10 18 = true := by
  unfold powOk
  rw [decide_eq_true_eq]
  omega
theorem pot_fin (c : Int) (k : Nat) (hk : k < 2) : Pt (if c - 1000000000000000000 > 0 then c - 1000000000000000000 else 0) ((c % 2147483549 * 40009 + 6247 * k + 1313) % 2147483563 + 1) := by
  have h1 := Int.emod_nonneg (c % 2147483549 * 40009 + 6247 * k + 1313) (show (2147483563 : Int) ≠ 0 by omega)
  have h2 := Int.emod_lt_of_pos (c % 2147483549 * 40009 + 6247 * k + 1313) (show (0 : Int) < 2147483563 by omega)
  refine ⟨?_, by omega, by omega⟩
  split <;> omega
theorem e1 (c : Int) : in64 (c % 2147483549) = true := by
  have h1 := Int.emod_nonneg c (show (2147483549 : Int) ≠ 0 by omega)
  have h2 := Int.emod_lt_of_pos c (show (0 : Int) < 2147483549 by omega)
  unfold in64
  rw [decide_eq_true_eq]
  omega
theorem q_pot (ns : List Int) (k : Nat) (hk : k < 2) : ∃ x y, Pt x y ∧ m__law_pot [.scr ns, .int k] = some (.lst true [.int x, .int y], [some (.scr ns), some (.int k)]) := by
  have e2 : in64 6247 = true := by decide
  have e4 : in64 1823 = true := by decide
  by_cases h : k < ns.length
  · have hd := List.getElem?_eq_getElem h
    have h' : (k : Int) < ns.length := by omega
    obtain ⟨c, hc⟩ : ∃ c, absD [.int ns[k]] = some (.int c) := ⟨_, rfl⟩
    refine ⟨_, _, pot_fin c k hk, ?_⟩
    unfold m__law_pot
    rw [ev_fn]
    simp [b__law_pot, h', atI_nat', hd, e1, e2, e3, -abs_int', hc]
  · have h' : ¬ (k : Int) < ns.length := by omega
    obtain ⟨c, hc⟩ : ∃ c : Int, c = 1823 * (k : Int) + 1313 := ⟨_, rfl⟩
    have ha : ∀ E : En, E[1]? = some (some (.int k)) → op2 addD (oV (op2 mulD (oV (xC (.int 1823))) (oN 1))) (oV (xC (.int 1313))) E = some (.int c, E) := fun E hE => by
      simp [hE, e4, hc]
    refine ⟨_, _, pot_fin c k hk, ?_⟩
    unfold m__law_pot
    rw [ev_fn]
    have hb : (ifX (toB (op2 ltD (oN 1) (oV (opN lenD (hCons (oN 0) hNil))))) (opN absD (hCons (oV (op2 ixD (oN 0) (oN 1))) hNil)) (op2 addD (oV (op2 mulD (oV (xC (.int (1823)))) (oN 1))) (oV (xC (.int (1313)))))) [some (.scr ns), some (.int k), none] = some (.int c, [some (.scr ns), some (.int k), none]) := by
      rw [ev_ifX]
      have : (toB (op2 ltD (oN 1) (oV (opN lenD (hCons (oN 0) hNil))))) [some (.scr ns), some (.int k), none] = some (false, [some (.scr ns), some (.int k), none]) := by simp [h']
      rw [this]
      exact ha [some (.scr ns), some (.int k), none] rfl
    simp [b__law_pot, -ev_ifX, hb, e1, e2, e3]
end K11

/-! k11: the drawn texts. -/
namespace K11
open PySem PySem.Spec L2 MP
def okT (n : Nat) (t : List Nat) : Bool := decide (t.length ≤ n) && t.all fun c => decide (c < 1000)
theorem okT_iff {n : Nat} {t : List Nat} : okT n t = true ↔ t.length ≤ n ∧ ∀ c ∈ t, c < 1000 := by
  unfold okT
  rw [Bool.and_eq_true, decide_eq_true_eq, List.all_eq_true]
  simp
theorem frozen_strs (tss : List (List Nat)) : frozenL (tss.map fun t => D.str (S t)) = true := by
  induction tss with
  | nil => rfl
  | cons t ts ih => simp [ih]
theorem q_pickS (x y : Int) (tss : List (List Nat)) (h : Pt x y) (h0 : 0 < tss.length) (hl : tss.length < 1000) :
    ∃ t ∈ tss, m__law_pick [.lst true [.int x, .int y], .lst true (tss.map fun t => D.str (S t))] = some (.str (S t), [some (.lst true [.int (dX x y tss.length), .int (dY x y tss.length)]), some (.lst true (tss.map fun t => D.str (S t)))]) := by
  obtain ⟨d, hd, e⟩ := q_pick x y (tss.map fun t => D.str (S t)) h (by simpa using h0) (by simpa using hl) (frozen_strs tss)
  obtain ⟨t, ht, rfl⟩ := List.mem_map.mp hd
  rw [List.length_map] at e
  exact ⟨t, ht, e⟩
theorem q_piece (x y : Int) (h : Pt x y) : ∃ t x' y', Pt x' y' ∧ okT 9 t = true ∧ m__law_piece [.lst true [.int x, .int y]] = some (.str (S t), [some (.lst true [.int x', .int y'])]) := by
  have qd := q_draw x y 9 h (by decide) (by decide)
  have h1 := pt_next (m := 9) h (by decide)
  have hv := dV_ok x y 9 (by decide)
  have mem : ∀ {tss : List (List Nat)} {t : List Nat}, tss.all (okT 9) = true → t ∈ tss → okT 9 t = true := fun {tss t} a b => List.all_eq_true.mp a t b
  unfold m__law_piece
  rw [ev_fn]
  by_cases c1 : dV x y 9 < 3
  · obtain ⟨t, ht, e⟩ := q_pickS _ _ [[97], [102, 105, 101, 108, 100], [119, 97, 108, 108], [97, 98, 99, 100, 101, 102, 103, 104], kc4, [116, 111], [120], [104, 111, 117, 115, 101, 115], kc0] h1 (by decide) (by decide)
    simp at e
    refine ⟨t, _, _, pt_next (m := 9) h1 (by decide), mem (by decide) ht, ?_⟩
    simp [b__law_piece, qd, c1, e]
  · by_cases c2 : dV x y 9 < 5
    · obtain ⟨t, ht, e⟩ := q_pickS _ _ [[48], [55], [52, 50], [57, 57, 57, 57, 57, 57, 57], [49, 48, 48, 48, 48, 48, 48, 48], [48, 55], [48, 48], [49, 48, 48]] h1 (by decide) (by decide)
      simp at e
      refine ⟨t, _, _, pt_next (m := 8) h1 (by decide), mem (by decide) ht, ?_⟩
      simp [b__law_piece, qd, c1, c2, e]
    · by_cases c3 : dV x y 9 < 7
      · obtain ⟨t, ht, e⟩ := q_pickS _ _ [[59], [59], [32], [59, 59]] h1 (by decide) (by decide)
        simp at e
        refine ⟨t, _, _, pt_next (m := 4) h1 (by decide), mem (by decide) ht, ?_⟩
        simp [b__law_piece, qd, c1, c2, c3, e]
      · by_cases c4 : dV x y 9 = 7
        · obtain ⟨t, ht, e⟩ := q_pickS _ _ [[32], [10], [32, 32], [32, 10, 32], [63], [65], [95], [44], [46], [126]] h1 (by decide) (by decide)
          simp at e
          refine ⟨t, _, _, pt_next (m := 10) h1 (by decide), mem (by decide) ht, ?_⟩
          rw [c4] at qd
          simp [b__law_piece, qd, e]
        · have c5 : (dV x y 9 == 7) = false := beq_eq_false_iff_ne.mpr c4
          refine ⟨[32], _, _, h1, by decide, ?_⟩
          simp [b__law_piece, qd, c1, c2, c3, c5]
end K11

/-! k11: the drawn texts, whole. -/
namespace K11
open PySem PySem.Spec L2 MP
theorem join_fold : ∀ (ts : List (List Nat)) (acc : Array Nat), ((ts.map S).foldl (fun acc p => acc ++ (S []).cps ++ p.cps) acc) = acc ++ ts.flatten.toArray
  | [], acc => by simp
  | t :: ts, acc => by
    rw [List.map_cons, List.foldl_cons, join_fold ts]
    simp [S]
theorem join_S (ts : List (List Nat)) : Txt.join (S []) (ts.map S) = S ts.flatten := by
  unfold Txt.join Builtin.Str.glued
  cases ts with
  | nil => rfl
  | cons t ts =>
    show (⟨((ts.map S).foldl _ (S t).cps)⟩ : Str) = _
    rw [join_fold]
    simp [S]
theorem strs_map (ts : List (List Nat)) : strsOf (ts.map fun t => D.str (S t)) = some (ts.map S) := by
  have := strsOf_map (ts.map S)
  rw [List.map_map] at this
  exact this
theorem okT_app {n m : Nat} {a b : List Nat} (ha : okT n a = true) (hb : okT m b = true) : okT (n + m) (a ++ b) = true := by
  rw [okT_iff] at ha hb ⊢
  refine ⟨by rw [List.length_append]; omega, fun c hc => ?_⟩
  rcases List.mem_append.mp hc with h | h
  · exact ha.2 c h
  · exact hb.2 c h
theorem okT_take {n k : Nat} {a : List Nat} (ha : okT n a = true) : okT n (a.take k) = true := by
  rw [okT_iff] at ha ⊢
  exact ⟨by rw [List.length_take]; omega, fun c hc => ha.2 c (List.mem_of_mem_take hc)⟩
theorem okT_drop {n k : Nat} {a : List Nat} (ha : okT n a = true) : okT n (a.drop k) = true := by
  rw [okT_iff] at ha ⊢
  exact ⟨by rw [List.length_drop]; omega, fun c hc => ha.2 c (List.mem_of_mem_drop hc)⟩
theorem okT_mono {n m : Nat} {a : List Nat} (ha : okT n a = true) (h : n ≤ m) : okT m a = true := by
  rw [okT_iff] at ha ⊢
  exact ⟨by omega, ha.2⟩
theorem okT_flat : ∀ ts : List (List Nat), (∀ t ∈ ts, okT 9 t = true) → okT (9 * ts.length) ts.flatten = true
  | [], _ => rfl
  | t :: ts, h => by
    rw [List.flatten_cons, List.length_cons]
    exact okT_mono (okT_app (h t List.mem_cons_self) (okT_flat ts fun u hu => h u (List.mem_cons_of_mem _ hu))) (by omega)
theorem q_comp (late a b c : Option D) : ∀ (items : List D) (x y : Int), Pt x y → (∀ i ∈ items, i.frozen = true) → ∃ (ts : List (List Nat)) (x' y' : Int), Pt x' y' ∧ ts.length = items.length ∧ (∀ t ∈ ts, okT 9 t = true) ∧
    cL cg1__law_text ct1__law_text ce1__law_text [5] items [some (.lst true [.int x, .int y]), late, a, b, c, none] = some (ts.map fun t => D.str (S t), [some (.lst true [.int x', .int y']), late, a, b, c, none])
  | [], x, y, h, _ => ⟨[], x, y, h, rfl, ⟨fun t z => (by simp at z), rfl⟩⟩
  | i :: items, x, y, h, hi => by
    obtain ⟨t, x1, y1, h1, ht, e⟩ := q_piece x y h
    obtain ⟨ts, x2, y2, h2, hl, hts, ih⟩ := q_comp late a b c items x1 y1 h1 fun j hj => hi j (List.mem_cons_of_mem _ hj)
    refine ⟨t :: ts, x2, y2, h2, by rw [List.length_cons, List.length_cons, hl], fun u hu => ?_, ?_⟩
    · rcases List.mem_cons.mp hu with q | hu
      · rw [q]
        exact ht
      · exact hts u hu
    · rw [ev_cl1]
      simp [e_cg1__law_text, e_ct1__law_text, e_ce1__law_text, e, ih]
theorem mul_S (c : Nat) (n : Nat) (hn : 1 < n) : Txt.mul (S [c]) (n : Int) = S (List.replicate n c) := by
  unfold Txt.mul
  have h1 : ¬ ((n : Int) < 1) := by omega
  have h2 : ((n : Int) == 1) = false := beq_eq_false_iff_ne.mpr (by omega)
  have h3 : ((S [c]).length == 0) = false := by rw [S_len]; rfl
  rw [if_neg h1, h2, h3]
  have f : ∀ (k : Nat) (acc : Array Nat), (List.replicate k (S [c]).cps).foldl (· ++ ·) acc = acc ++ (List.replicate k c).toArray := fun k => by
    induction k with
    | zero => intro acc; simp
    | succ k ih =>
      intro acc
      rw [List.replicate_succ, List.foldl_cons, ih, List.replicate_succ]
      show acc ++ #[c] ++ _ = _
      rw [Array.append_assoc]
      congr 1
      simp
  rw [if_neg (by simp), Int.toNat_natCast, f]
  simp [S]

theorem q_text (x y u v : Int) (h : Pt x y) (h' : Pt u v) : ∃ t x' y' u' v', Pt x' y' ∧ Pt u' v' ∧ okT 4200 t = true ∧
    m__law_text [.lst true [.int x, .int y], .lst true [.int u, .int v]] = some (.str (S t), [some (.lst true [.int x', .int y']), some (.lst true [.int u', .int v'])]) := by
  have qd := q_draw x y 14 h (by decide) (by decide)
  have h1 := pt_next (m := 14) h (by decide)
  obtain ⟨v1, v2⟩ := dV_ok x y 14 (by decide)
  obtain ⟨n, hn⟩ : ∃ n : Nat, dV x y 14 = n := ⟨(dV x y 14).toNat, by omega⟩
  rw [hn] at qd
  have hn14 : n < 14 := by omega
  obtain ⟨ts, x1, y1, hp, hl, hts, hc⟩ := q_comp (some (.lst true [.int u, .int v])) none none none (rngD 0 n) _ _ h1 (fun i hi => by
    unfold rngD at hi
    obtain ⟨k, _, rfl⟩ := List.mem_map.mp hi
    rfl)
  have hl' : ts.length = n := by
    rw [hl]
    simp [rngD]
  have okt := okT_flat ts hts
  obtain ⟨t, ht⟩ : ∃ t, t = ts.flatten := ⟨_, rfl⟩
  rw [← ht] at okt
  have okt2 : okT 117 t = true := okT_mono okt (by omega)
  have hlen := (okT_iff.mp okt2).1
  have hj : joinD (.str (S [])) [.lst true (ts.map fun t => D.str (S t))] = some (.str (S t)) := by
    show (match strsOf (ts.map fun t => D.str (S t)) with | some ys => if joinOk (S []) ys = true then some (D.str (Txt.join (S []) ys)) else none | none => none) = _
    rw [strs_map]
    have : joinOk (S []) (ts.map S) = true := by
      unfold joinOk
      rw [decide_eq_true_eq, List.map_map, S_len]
      have : (ts.map ((fun x : Str => x.length) ∘ S)).sum = ts.flatten.length := by
        rw [List.length_flatten]
        have e : ((fun x : Str => x.length) ∘ S) = List.length := funext fun l => S_len l
        rw [e]
      rw [this, ← ht]
      simp
      omega
    show (if joinOk (S []) (ts.map S) = true then some (D.str (Txt.join (S []) (ts.map S))) else none) = _
    rw [if_pos this, join_S, ht]
  have hs : smallI n = true := by
    unfold smallI
    rw [decide_eq_true_eq]
    omega
  have hl2 : ts.length ≤ 16777216 := by omega
  have ql := q_draw u v 5 h' (by decide) (by decide)
  have g1 := pt_next (m := 5) h' (by decide)
  obtain ⟨w1, w2⟩ := dV_ok u v 5 (by decide)
  have qa := q_draw _ _ ((t.length : Int) + 1) g1 (by omega) (by omega)
  have g2 := pt_next (m := (t.length : Int) + 1) g1 (by omega)
  obtain ⟨a1, a2⟩ := dV_ok (dX u v 5) (dY u v 5) ((t.length : Int) + 1) (by omega)
  obtain ⟨j, hj2⟩ : ∃ j : Nat, dV (dX u v 5) (dY u v 5) ((t.length : Int) + 1) = j := ⟨(dV (dX u v 5) (dY u v 5) ((t.length : Int) + 1)).toNat, by omega⟩
  rw [hj2] at qa
  generalize dX (dX u v 5) (dY u v 5) ((t.length : Int) + 1) = u2 at qa g2
  generalize dY (dX u v 5) (dY u v 5) ((t.length : Int) + 1) = v2' at qa g2
  have hjl : j ≤ t.length := by omega
  have hm : min j t.length = j := by omega
  have hlt : t.length ≤ 16777216 := by omega
  unfold m__law_text
  rw [ev_fn]
  by_cases c0 : dV u v 5 = 0
  · obtain ⟨z, hz, e⟩ := q_pickS _ _ [[35], [48], [57], [122], [10], [90], [59]] g2 (by decide) (by decide)
    have hz1 : okT 1 z = true := List.all_eq_true.mp (show ([[35], [48], [57], [122], [10], [90], [59]] : List (List Nat)).all (okT 1) = true by decide) z hz
    simp at e
    rw [c0] at ql
    refine ⟨t.take j ++ z ++ t.drop j, _, _, _, _, hp, pt_next (m := 7) g2 (by decide), okT_mono (okT_app (okT_app (okT_take okt2) hz1) (okT_drop okt2)) (by decide), ?_⟩
    have zl := (okT_iff.mp hz1).1
    have l1 : min j t.length + z.length ≤ 16777216 := by omega
    have l2 : min j t.length + z.length + (t.length - j) ≤ 16777216 := by omega
    have l3 : j + z.length ≤ 16777216 := by omega
    have l4 : j + z.length + (t.length - j) ≤ 16777216 := by omega
    simp [b__law_text, backF, qd, hs, hc, hl2, hj, ql, hlt, qa, hm, e, l1, l2, l3, l4]
    exact List.take_of_length_le (by rw [List.length_drop]; omega)
  · have b0 : (dV u v 5 == 0) = false := beq_eq_false_iff_ne.mpr c0
    by_cases c1 : dV u v 5 = 1
    · rw [c1] at ql
      have six : HT.sIx t.length 0 (some ((j : Int) + 1)) = min (j + 1) t.length := by
        have := HT.sIx_nat t.length 0 (j + 1)
        simpa using this
      have l1 : min j t.length + (t.length - min (j + 1) t.length) ≤ 16777216 := by omega
      have l2 : j + (t.length - min (j + 1) t.length) ≤ 16777216 := by omega
      refine ⟨t.take j ++ (t.drop (min (j + 1) t.length)).take (t.length - min (j + 1) t.length), _, _, _, _, hp, g2, okT_mono (okT_app (okT_take okt2) (okT_take (okT_drop okt2))) (by decide), ?_⟩
      simp [b__law_text, backF, qd, hs, hc, hl2, hj, ql, hlt, qa, hm, six, l1, l2]
    · have b1 : (dV u v 5 == 1) = false := beq_eq_false_iff_ne.mpr c1
      by_cases c2 : dV u v 5 = 2
      · rw [c2] at ql
        have q3 := q_draw _ _ 3 g2 (by decide) (by decide)
        have g3 := pt_next (m := 3) g2 (by decide)
        by_cases c3 : dV u2 v2' 3 = 0
        · rw [c3] at q3
          obtain ⟨z, hz, e⟩ := q_pickS _ _ [[32], [32], [10]] g3 (by decide) (by decide)
          simp at e
          have g4 := pt_next (m := 3) g3 (by decide)
          have q4 := q_draw _ _ ((t.length : Int) + 20) g4 (by omega) (by omega)
          have g5 := pt_next (m := (t.length : Int) + 20) g4 (by omega)
          generalize dX (dX u2 v2' 3) (dY u2 v2' 3) 3 = u4 at e g4 q4 g5
          generalize dY (dX u2 v2' 3) (dY u2 v2' 3) 3 = v4 at e g4 q4 g5
          obtain ⟨r1, r2⟩ := dV_ok u4 v4 ((t.length : Int) + 20) (by omega)
          obtain ⟨r, hr⟩ : ∃ r : Nat, dV u4 v4 ((t.length : Int) + 20) = r := ⟨(dV u4 v4 ((t.length : Int) + 20)).toNat, by omega⟩
          rw [hr] at q4
          have hr2 : r < 140 := by omega
          obtain ⟨c, hc1, rfl⟩ : ∃ c, (c = 32 ∨ c = 10) ∧ z = [c] := by
            simp at hz
            rcases hz with hz | hz
            · exact ⟨32, .inl rfl, hz⟩
            · exact ⟨10, .inr rfl, hz⟩
          have mm : mulD (.str (S [c])) (.int (4000 - (r : Int))) = some (.str (S (List.replicate (4000 - r) c))) := by
            show (if mulOkS (S [c]) (4000 - (r : Int)) = true then some (D.str (Txt.mul (S [c]) (4000 - (r : Int)))) else none) = _
            have en : (4000 - (r : Int)) = ((4000 - r : Nat) : Int) := by omega
            have ok : mulOkS (S [c]) (4000 - (r : Int)) = true := by
              unfold mulOkS
              rw [Bool.and_eq_true, decide_eq_true_eq, decide_eq_true_eq, S_len, en, Int.toNat_natCast]
              simp only [List.length_singleton]
              omega
            rw [if_pos ok, en, mul_S c (4000 - r) (by omega)]
          have okr : okT 4000 (List.replicate (4000 - r) c) = true := by
            rw [okT_iff, List.length_replicate]
            refine ⟨by omega, fun d hd => ?_⟩
            have := List.eq_of_mem_replicate hd
            omega
          have l1 : 4000 - r + t.length ≤ 16777216 := by omega
          refine ⟨List.replicate (4000 - r) c ++ t, _, _, _, _, hp, g5, okT_mono (okT_app okr okt2) (by decide), ?_⟩
          simp [b__law_text, backF, qd, hs, hc, hl2, hj, ql, hlt, qa, hm, q3, e, q4, mm, l1]
        · have b3 := beq_eq_false_iff_ne.mpr c3
          refine ⟨t, _, _, _, _, hp, g3, okT_mono okt2 (by decide), ?_⟩
          simp [b__law_text, backF, qd, hs, hc, hl2, hj, ql, hlt, qa, hm, q3, b3]
      · have b2 : (dV u v 5 == 2) = false := beq_eq_false_iff_ne.mpr c2
        refine ⟨t, _, _, _, _, hp, g2, okT_mono okt2 (by decide), ?_⟩
        simp [b__law_text, backF, qd, hs, hc, hl2, hj, ql, hlt, qa, hm, b0, b1, b2]
end K11

/-! k11: the law. -/
namespace K11
open PySem PySem.Spec L2 MP
theorem tok_sub {l : List Nat} {a c : Nat} (h : c ∈ tokAt l a) : c ∈ l := by
  unfold tokAt at h
  split at h
  · exact List.mem_of_mem_drop (List.mem_of_mem_take h)
  · simp at h
theorem scan_sub (l : List Nat) : ∀ (n a : Nat) (b : Bool), ∀ t ∈ (scan l n a b).1, ∀ c ∈ t.1, c ∈ l
  | 0, a, b, t, h => by simp [scan] at h
  | n + 1, a, b, t, h => by
    unfold scan at h
    split at h
    · simp at h
    · split at h
      · exact scan_sub l n (a + 1) false t h
      · split at h
        · simp at h
        · rcases List.mem_cons.mp h with e | h
          · rw [e]
            exact fun c hc => tok_sub hc
          · exact scan_sub l n _ _ t h
theorem look_sub (l : List Nat) : ∀ t ∈ (lookR l).1, ∀ c ∈ t.1, c ∈ l := by
  have h := scan_sub l fu 0 false
  have ha : ∀ t ∈ ahead (scan l fu 0 false).1 4000, ∀ c ∈ t.1, c ∈ l := fun t ht => h t (List.mem_filter.mp ht).1
  unfold lookR
  split
  · split
    · exact ha
    · split
      · exact ha
      · exact h
  · exact h
theorem fine_pl {l : List Nat} {n : Nat} (hl : l.length ≤ 10000) (a : Nat) : FineL n 2 (plD l a) := by
  have h := pl_le (l.take a)
  have h2 : (l.take a).length ≤ l.length := by
    rw [List.length_take]
    omega
  have e : ∀ i : Nat, i ≤ 10001 → (i : Int).natAbs < 10 ^ 12 := fun i hi => by
    rw [Int.natAbs_natCast]
    omega
  exact (FineL.cons (w := 0) (Fine.int _ (e _ (by omega))) (FineL.cons (w := 0) (w' := 0) (Fine.int _ (e _ (by omega))) FineL.nil)).mono (Nat.le_refl _) (by decide)
theorem fine_tok {l : List Nat} (hl : okT 10000 l = true) (t : List Nat × Nat) (h : ∀ c ∈ t.1, c ∈ l) : Fine 2 (t.1.length + 4) (tokD l t) := by
  obtain ⟨h1, h2⟩ := okT_iff.mp hl
  have f1 : Fine 1 t.1.length (.str (S t.1)) := Fine.str t.1 fun c hc => Nat.lt_trans (h2 c (h c hc)) (by decide)
  have f2 : Fine 1 2 (.tup false (plD l t.2)) := Fine.tup (n := 0) (fine_pl h1 t.2)
  exact (Fine.tup (n := 1) (FineL.cons f1 (FineL.cons (w' := 0) f2 FineL.nil))).mono (Nat.le_refl _) (by omega)
theorem fine_toks {l : List Nat} (hl : okT 10000 l = true) : ∀ ts : List (List Nat × Nat), (∀ t ∈ ts, ∀ c ∈ t.1, c ∈ l) → FineL 2 (wt ts) (toksD l ts)
  | [], _ => FineL.nil
  | t :: ts, h => by
    have ih := fine_toks hl ts fun u hu => h u (List.mem_cons_of_mem _ hu)
    have f := fine_tok hl t (h t List.mem_cons_self)
    have e : wt (t :: ts) = t.1.length + 5 + wt ts := by
      unfold wt
      rw [List.map_cons, List.sum_cons]
    rw [e]
    exact (FineL.cons f ih).mono (Nat.le_refl _) (by omega)
theorem fine_fault {l : List Nat} (hl : okT 10000 l = true) (f : Option (Nat × Nat)) : Fine 3 20 (optF l f) := by
  cases f with
  | none => exact Fine.non
  | some x =>
    obtain ⟨k, j⟩ := x
    have h1 : (wname k).length ≤ 7 ∧ ∀ c ∈ wname k, c < 16 ^ 8 := by
      unfold wname
      split <;> decide
    exact (Fine.tup (n := 2) (FineL.cons (Fine.str (n := 2) (wname k) h1.2) (fine_pl (okT_iff.mp hl).1 j))).mono (Nat.le_refl _) (by omega)
/-- all that is shown may be shown -/
theorem shows {l : List Nat} (hl : okT 10000 l = true) :
    okShow (.lst true [.lst true (toksD l (lookR l).1), .lst true (toksD l (lookR l).1), optF l (lookR l).2, optF l (lookR l).2]) = true ∧ okShow (.lst true (toksD l (lookR l).1)) = true ∧
    okShow (.lst true [optF l (lookR l).2, optF l (lookR l).2]) = true ∧ okShow (.lst true [.lst true (toksD l (lookR l).1), optF l (lookR l).2]) = true := by
  have hw := look_wt l
  have h1 := (okT_iff.mp hl).1
  have ft := (fine_toks hl (lookR l).1 (look_sub l)).mono (Nat.le_refl 2) (show wt (lookR l).1 ≤ 60000 by omega)
  have fT : Fine 3 60000 (.lst true (toksD l (lookR l).1)) := Fine.lst ft
  have ff := fine_fault hl (lookR l).2
  refine ⟨?_, ?_, ?_, ?_⟩
  · exact ((Fine.lst (FineL.cons fT (FineL.cons fT (FineL.cons ff (FineL.cons ff (FineL.nil (w := 0))))))).mono (by decide) (Nat.le_refl _)).ok (by decide)
  · exact (fT.mono (by decide) (Nat.le_refl _)).ok (by decide)
  · exact ((Fine.lst (FineL.cons ff (FineL.cons ff (FineL.nil (w := 0))))).mono (by decide) (Nat.le_refl _)).ok (by decide)
  · exact ((Fine.lst (FineL.cons fT (FineL.cons ff (FineL.nil (w := 0))))).mono (by decide) (Nat.le_refl _)).ok (by decide)
theorem ev_reprD (d : D) : reprD [d] = iteK (okShow d) (some (.str d.toP.shown)) none := nr rfl
theorem p0 : ([0] : List Nat).isPerm [0] = true := by decide
theorem ntn_fault (l : List Nat) (k j : Nat) : notNon (faultD l k j) .non = some (.bl true) := nr rfl
theorem law_step (sc st : Option D) (x y u v : Int) (h : Pt x y) (h' : Pt u v) : ∃ x' y' u' v' E, Pt x' y' ∧ Pt u' v' ∧
    wb1_law [sc, some (.lst true [.int x, .int y]), some (.lst true [.int u, .int v]), st, none, none, none, none, none] = some (.nx, E) ∧
    kill [3, 4, 5, 6, 7, 8] E = [sc, some (.lst true [.int x', .int y']), some (.lst true [.int u', .int v']), none, none, none, none, none, none] := by
  obtain ⟨t, x1, y1, u1, v1, hp, hq, ok, e⟩ := q_text x y u v h h'
  have ok2 : okT 10000 t = true := okT_mono ok (by decide)
  have hl := (okT_iff.mp ok).1
  obtain ⟨s1, s2, s3, s4⟩ := shows ok2
  have qx := q_lexed t (by omega)
  have qt := p_tokens t (by omega)
  have qf := p_fault t (by omega)
  obtain ⟨z, hz, ep⟩ := q_pickS u1 v1 [[32, 63], [32, 48], [10, 59], [32, 97, 98, 99]] hq (by decide) (by decide)
  have g1 := pt_next (m := 4) hq (by decide)
  simp at ep
  obtain ⟨c, s, hc, rfl⟩ : ∃ c s, (c = 32 ∨ c = 10) ∧ z = c :: s := by
    simp at hz
    rcases hz with q | q | q | q
    · exact ⟨32, _, .inl rfl, q⟩
    · exact ⟨32, _, .inl rfl, q⟩
    · exact ⟨10, _, .inr rfl, q⟩
    · exact ⟨32, _, .inl rfl, q⟩
  have hs : s.length ≤ 3 := by
    simp at hz
    rcases hz with q | q | q | q <;> rw [q.2] <;> decide
  have hT : (toksD t (lookR t).1).length ≤ 16777215 := by
    have hw := look_wt t
    have : (lookR t).1.length ≤ wt (lookR t).1 := by
      generalize (lookR t).1 = ts
      induction ts with
      | nil => exact Nat.zero_le _
      | cons a ts ih =>
        unfold wt at ih ⊢
        rw [List.map_cons, List.sum_cons, List.length_cons]
        omega
    unfold toksD
    rw [List.length_map]
    omega
  have l1 : t.length + (s.length + 1) ≤ 16777216 := by omega
  have l2 : t.length ≤ 16777216 := by omega
  cases hf : (lookR t).2 with
  | none =>
    rw [hf] at qx qf s1 s3 s4
    simp only [optF] at qx qf s1 s3 s4
    refine ⟨x1, y1, _, _, [sc, some (.lst true [.int x1, .int y1]), some (.lst true [.int (dX u1 v1 4), .int (dY u1 v1 4)]), st, some (.str (S t)), some (.lst true (toksD t (lookR t).1)), some .non, some (.lst true (toksD t (lookR t).1 ++ [.non])), some (.str (S (t ++ c :: s)))], hp, g1, ?_, by simp⟩
    simp [e_wb1_law, e, qx, qt, qf, s1, s2, s3, s4, hT, ep, l1, l2, pick, p0, ev_reprD]
  | some f =>
    obtain ⟨k, j⟩ := f
    have ql := p_letter t (by omega) k j hf
    rw [hf] at qx qf s1 s3 s4
    simp only [optF] at qx qf s1 s3 s4
    have nt := ntn_fault t k j
    refine ⟨x1, y1, _, _, [sc, some (.lst true [.int x1, .int y1]), some (.lst true [.int (dX u1 v1 4), .int (dY u1 v1 4)]), st, some (.str (S t)), some (.lst true (toksD t (lookR t).1)), some (faultD t k j), some (.lst true (toksD t (lookR t).1 ++ [.non])), some (.str (S (t ++ c :: s)))], hp, g1, ?_, by simp⟩
    by_cases h4 : (t ++ c :: s).length < 4000
    · have la := look_app t s c hc (k, j) hf h4
      have qt2 := p_tokens (t ++ c :: s) (by omega)
      have qf2 := p_fault (t ++ c :: s) (by omega)
      rw [la] at qt2 qf2
      rw [hf] at qf2
      have inn := look_in t
      rw [toksD_app t (c :: s) _ inn.1] at qt2
      have ef : optF (t ++ c :: s) (some (k, j)) = faultD t k j := by
        show faultD (t ++ c :: s) k j = _
        unfold faultD
        rw [plD_app t (c :: s) j (inn.2 k j hf)]
      rw [ef] at qf2
      have h4' : (t.length : Int) + ((s.length : Int) + 1) < 4000 := by
        rw [List.length_append, List.length_cons] at h4
        omega
      simp [e_wb1_law, e, qx, qt, qf, ql, nt, s1, s2, s3, s4, hT, ep, l1, l2, pick, p0, ev_reprD, h4', qt2, qf2]
    · have h4' : ¬ (t.length : Int) + ((s.length : Int) + 1) < 4000 := by
        rw [List.length_append, List.length_cons] at h4
        omega
      simp [e_wb1_law, e, qx, qt, qf, ql, nt, s1, s2, s3, s4, hT, ep, l1, l2, pick, p0, ev_reprD, h4']
theorem law_loop (sc : Option D) : ∀ (items : List D) (x y u v : Int), Pt x y → Pt u v → ∃ x' y' u' v',
    sForL wg1_law wb1_law [3, 4, 5, 6, 7, 8] items [sc, some (.lst true [.int x, .int y]), some (.lst true [.int u, .int v]), none, none, none, none, none, none] = some (.nx, [sc, some (.lst true [.int x', .int y']), some (.lst true [.int u', .int v']), none, none, none, none, none, none])
  | [], x, y, u, v, _, _ => ⟨x, y, u, v, rfl⟩
  | i :: items, x, y, u, v, h, h' => by
    obtain ⟨x1, y1, u1, v1, E, hp, hq, e1, e2⟩ := law_step sc (some i) x y u v h h'
    obtain ⟨x2, y2, u2, v2, ih⟩ := law_loop sc items x1 y1 u1 v1 hp hq
    refine ⟨x2, y2, u2, v2, ?_⟩
    rw [ev_for1]
    simp [e_wg1_law, e1]
    simp at e2
    rw [e2, ih]
theorem says : Says m_law 63 := fun ns hn => by
  obtain ⟨x, y, hp, e1⟩ := q_pot ns 0 (by decide)
  obtain ⟨u, v, hq, e2⟩ := q_pot ns 1 (by decide)
  obtain ⟨x', y', u', v', e3⟩ := law_loop (some (.scr ns)) (rngD 0 10) x y u v hp hq
  refine ⟨[some (.scr ns)], ?_⟩
  unfold m_law
  rw [ev_fn]
  simp at e1 e2
  have sm : smallI 10 = true := by decide
  simp [b_law, e1, e2, sm, e3]
end K11

open PySem PySem.W PyProof.Rows
set_option maxHeartbeats 0 in
theorem PySem.Challenge.cw_lowland_k11_whole_tokens_and_what_is_wro_holds : PySem.Challenge.rw_lowland_k11_whole_tokens_and_what_is_wro.Holds := by
  w_on; o_law; k_head; (case hw => w_witness2)
  k_fill
  refine MP.walk_in (l := PySem.Challenge.rw_lowland_k11_whole_tokens_and_what_is_wro) (n := 63) (k := 7) (x := "script") (mf := K11.m_law) rfl (by decide) rfl ⟨rfl, by decide, by decide⟩ (fun w h Y => PySem.W.kIn_of Y) ?qqF K11.says
  case qqF =>
    intro w mg fa h KX G hmg
    refine' K11.law_in (h := h) (K11.facts_mk KX G ?qqa0 ?qql0 ?qqc0 ?qqk0 ?qqa1 ?qql1 ?qqc1 ?qqk1 ?qqa2 ?qql2 ?qqc2 ?qqk2 ?qqa3 ?qql3 ?qqc3 ?qqk3 ?qqa4 ?qql4 ?qqc4 ?qqk4 ?qqa5 ?qql5 ?qqc5 ?qqk5 ?qqa6 ?qql6 ?qqc6 ?qqk6 ?qqa7 ?qql7 ?qqc7 ?qqk7 ?qqa8 ?qql8 ?qqc8 ?qqk8 ?qqa9 ?qql9 ?qqc9 ?qqk9 ?qqa10 ?qql10 ?qqc10 ?qqk10 ?qqa11 ?qql11 ?qqc11 ?qqk11 ?qqa12 ?qql12 ?qqc12 ?qqk12 ?qqa13 ?qql13 ?qqc13 ?qqk13 ?qqa14 ?qql14 ?qqc14 ?qqk14 ?qqa15 ?qql15 ?qqc15 ?qqk15 ?qqa16 ?qql16 ?qqc16 ?qqk16 ?qqa17 ?qql17 ?qqc17 ?qqk17 ?qqa18 ?qql18 ?qqc18 ?qqk18 ?qqa19 ?qql19 ?qqc19 ?qqk19 ?qqa20 ?qql20 ?qqc20 ?qqk20 ?qqz0 ?qqz1 ?qqz2 ?qqz3 ?qqz4 ?qqz5 ?qqz6 ?qqz7 ?qqz8 ?qqz9 ?qqg0 ?qqg1 ?qqg2 ?qqg3 ?qqg4 ?qqg5 ?qqg6) hmg
    (case qqa0 => k_is)
    (case qql0 => k_is)
    (case qqc0 => k_is)
    (case qqk0 => k_is)
    (case qqa1 => k_is)
    (case qql1 => k_is)
    (case qqc1 => k_is)
    (case qqk1 => k_is)
    (case qqa2 => k_is)
    (case qql2 => k_is)
    (case qqc2 => k_is)
    (case qqk2 => k_is)
    (case qqa3 => k_is)
    (case qql3 => k_is)
    (case qqc3 => k_is)
    (case qqk3 => k_is)
    (case qqa4 => k_is)
    (case qql4 => k_is)
    (case qqc4 => k_is)
    (case qqk4 => k_is)
    (case qqa5 => k_is)
    (case qql5 => k_is)
    (case qqc5 => k_is)
    (case qqk5 => k_is)
    (case qqa6 => k_is)
    (case qql6 => k_is)
    (case qqc6 => k_is)
    (case qqk6 => k_is)
    (case qqa7 => k_is)
    (case qql7 => k_is)
    (case qqc7 => k_is)
    (case qqk7 => k_is)
    (case qqa8 => k_is)
    (case qql8 => k_is)
    (case qqc8 => k_is)
    (case qqk8 => k_is)
    (case qqa9 => k_is)
    (case qql9 => k_is)
    (case qqc9 => k_is)
    (case qqk9 => k_is)
    (case qqa10 => k_is)
    (case qql10 => k_is)
    (case qqc10 => k_is)
    (case qqk10 => k_is)
    (case qqa11 => k_is)
    (case qql11 => k_is)
    (case qqc11 => k_is)
    (case qqk11 => k_is)
    (case qqa12 => k_is)
    (case qql12 => k_is)
    (case qqc12 => k_is)
    (case qqk12 => k_is)
    (case qqa13 => k_is)
    (case qql13 => k_is)
    (case qqc13 => k_is)
    (case qqk13 => k_is)
    (case qqa14 => k_is)
    (case qql14 => k_is)
    (case qqc14 => k_is)
    (case qqk14 => k_is)
    (case qqa15 => k_is)
    (case qql15 => k_is)
    (case qqc15 => k_is)
    (case qqk15 => k_is)
    (case qqa16 => k_is)
    (case qql16 => k_is)
    (case qqc16 => k_is)
    (case qqk16 => k_is)
    (case qqa17 => k_is)
    (case qql17 => k_is)
    (case qqc17 => k_is)
    (case qqk17 => k_is)
    (case qqa18 => k_is)
    (case qql18 => k_is)
    (case qqc18 => k_is)
    (case qqk18 => k_is)
    (case qqa19 => k_is)
    (case qql19 => k_is)
    (case qqc19 => k_is)
    (case qqk19 => k_is)
    (case qqa20 => k_is)
    (case qql20 => k_is)
    (case qqc20 => k_is)
    (case qqk20 => k_is)
    (case qqz0 => k_is)
    (case qqz1 => k_is)
    (case qqz2 => k_is)
    (case qqz3 => k_is)
    (case qqz4 => k_is)
    (case qqz5 => k_is)
    (case qqz6 => k_is)
    (case qqz7 => k_is)
    (case qqz8 => k_is)
    (case qqz9 => k_is)
    (case qqg0 => k_is)
    (case qqg1 => k_is)
    (case qqg2 => k_is)
    (case qqg3 => k_is)
    (case qqg4 => k_is)
    (case qqg5 => k_is)
    (case qqg6 => k_is)
